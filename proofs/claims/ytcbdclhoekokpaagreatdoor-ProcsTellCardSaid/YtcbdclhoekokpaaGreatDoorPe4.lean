/- reference 28: Read -/
import Derived.Test.YtcbdclhoekokpaaGreatDoorPe2
import Derived.Test.YtcbdclhoekokpaaGreatDoorPe3
import Derived.Test.YtcbdclhoekokpaaGreatDoorPd4
namespace Go.Proofs.YtcbdclhoekokpaaGreatDoor
open Go.RowKit M
set_option linter.unusedVariables false
theorem hStep {z : St} {a j : Nat} {T : List Int} {av fv : Value} {c s : Bs} (hj : j = a) (ha : a < 19) : (pF (intsV a z) T av fv c s).set j (intV (iV (intsR a z))) = pF (intsV (a + 1) z) T av fv c s := by
  subst hj
  rw [intsV_succ]
  have := pF_h (H := intsV j z) (T := T) (av := av) (fv := fv) (c := c) (s := s) (v := iV (intsR j z)) (by rw [intsV_len]; exact ha)
  rw [intsV_len] at this; exact this
theorem tStep {z : St} {a j : Nat} {H : List Int} {av fv : Value} {c s : Bs} (hj : j = 22 + a) (ha : a < 38) (hk : a < 2 ∨ a % 2 = 0 ∨ 34 ≤ a) : (pF H (intsV a z) av fv c s).set j (intV (iV (intsR a z))) = pF H (intsV (a + 1) z) av fv c s := by
  rw [intsV_succ]
  refine pF_t (by rw [intsV_len]; exact ha) (by rw [intsV_len]; exact hj) ?_
  rw [intsV_len]
  unfold tc; rw [if_neg (by omega)]
theorem splice_three {L : List Value} {o : Nat} {x y z : Value} (h : o + 3 ≤ L.length) : splice L o [x, y, z] = ((L.set o x).set (o + 1) y).set (o + 2) z := by
  unfold splice
  apply List.ext_getElem?
  intro j
  rw [List.getElem?_set, List.getElem?_set, List.getElem?_set]
  simp only [List.length_set, List.getElem?_append, List.length_append, List.length_take, List.length_cons, List.length_nil, List.getElem?_take, List.getElem?_drop]
  rw [Nat.min_eq_left (by omega)]
  by_cases h1 : j < o
  · rw [if_pos (by omega), if_pos h1, if_pos h1, if_neg (by omega), if_neg (by omega), if_neg (by omega)]
  · by_cases h2 : j < o + 3
    · rw [if_pos (by omega), if_neg h1]
      rcases (by omega : j = o ∨ j = o + 1 ∨ j = o + 2) with rfl | rfl | rfl
      · rw [if_neg (by omega), if_neg (by omega), if_pos rfl, if_pos (by omega)]; simp
      · rw [if_neg (by omega), if_pos rfl, if_pos (by omega)]; simp
      · rw [if_pos rfl, if_pos (by omega)]; simp
    · rw [if_neg (by omega), if_neg (by omega), if_neg (by omega), if_neg (by omega)]
      congr 1; omega
theorem waitStep {z : St} {H : List Int} {av fv : Value} {c s : Bs} : splice (pF H (intsV 34 z) av fv c s) 56 [intV (iV (intsR 34 z)), intV (iV (intsR 35 z)), intV (iV (intsR 36 z))] = pF H (intsV 37 z) av fv c s := by
  rw [splice_three (by rw [pF_len]; decide), tStep (a := 34) (by omega) (by omega) (by omega), tStep (a := 35) (by omega) (by omega) (by omega), tStep (a := 36) (by omega) (by omega) (by omega)]
theorem build10 (z : St) : pF (intsV 10 z) [] (.slice none 0 0) (.slice none 0 0) [] [] = [intV (iV (intsR 0 z)), intV (iV (intsR 1 z)), intV (iV (intsR 2 z)), intV (iV (intsR 3 z)), intV (iV (intsR 4 z)), intV (iV (intsR 5 z)), intV (iV (intsR 6 z)), intV (iV (intsR 7 z)), intV (iV (intsR 8 z)), intV (iV (intsR 9 z)), intV 0, intV 0, intV 0, intV 0, intV 0, intV 0, intV 0, intV 0, intV 0, (.slice none 0 0), (.slice none 0 0), strV [], intV 0, intV 0, intV 0, .bool false, intV 0, .bool false, intV 0, .bool false, intV 0, .bool false, intV 0, .bool false, intV 0, .bool false, intV 0, .bool false, intV 0, .bool false, intV 0, .bool false, intV 0, .bool false, intV 0, .bool false, intV 0, .bool false, intV 0, .bool false, intV 0, .bool false, intV 0, .bool false, intV 0, .bool false, intV 0, intV 0, intV 0, intV 0, strV []] := by
  have e : intsV 10 z = [iV (intsR 0 z), iV (intsR 1 z), iV (intsR 2 z), iV (intsR 3 z), iV (intsR 4 z), iV (intsR 5 z), iV (intsR 6 z), iV (intsR 7 z), iV (intsR 8 z), iV (intsR 9 z)] := by unfold intsV; rfl
  rw [e]; unfold pF; rfl
theorem okR_ars {z : St} (h : OkR z) : ∀ k, OkR (arSt k z)
  | 0 => by rw [arSt_zero]; exact h
  | k + 1 => by
    rw [arSt_succ]
    have h0 := okR_ars h k
    have i : ∀ {y : St}, OkR y → OkR (iR y) := fun {y} q => by unfold iR; exact q.num _ _
    unfold arR
    exact i (i (i ((i (i h0)).txt)))
theorem wfr_big {x : ProcD} (h : WFR x) : (encR x).length ≤ 1000000000000000 := by
  have h1 := encIs_len h.hi
  have h2 := encIs_len h.ti
  have h3 : (encN (x.ar.length : Int)).length ≤ 30 := encN_len (by have := h.al; unfold inI; omega)
  have h4 : (x.ar.flatMap encAr).length ≤ x.ar.length * 2000000 := flat_len fun y hy => by
    have q := h.ar y hy
    have a1 := encN_len q.a
    have a2 := encN_len q.n
    have a3 := encN_len q.f
    have a4 := encT_len q.o
    have a5 : ∀ b : Bool, (encN (bitN b)).length ≤ 30 := fun b => encN_len (by unfold bitN inI; split <;> omega)
    have a6 := a5 y.sh
    have a7 := a5 y.wr
    have a8 := q.o
    unfold encAr
    simp only [List.length_append]; omega
  have h5 : (x.fds.flatMap encT).length ≤ x.fds.length * 2000000 := flat_len fun s hs => by
    have a1 := h.fd s hs
    have a2 := encT_len a1
    omega
  have h6 := encT_len h.cwd
  have h7 := encT_len h.shl
  have h8 := (itoa_len (n := (x.fds.length : Int)) (by have := h.fdl; unfold inI; omega)).1
  have h9 : (encTs x.fds).length ≤ 3000000000000 := by
    have := h.fdl
    have h10 : x.fds.length * 2000000 ≤ 1000000 * 2000000 := Nat.mul_le_mul_right _ this
    unfold encTs
    simp only [List.length_append, List.length_cons, List.length_nil]; omega
  have h10 : x.ar.length * 2000000 ≤ 1000000 * 2000000 := Nat.mul_le_mul_right _ h.al
  have h11 := h.cwd
  have h12 := h.shl
  rw [h.hl] at h1
  rw [h.tl] at h2
  rw [encR_len]; omega
set_option maxRecDepth 100000 in
set_option maxHeartbeats 4000000 in
theorem qRead_sp {w : World} {F : Th} (hS : Sat w [F]) (s : Bs) (hs : s.length ≤ 1000000) :
    Calls Tryz.prog 37 #[strV s] w (Ret fun v w' => ∃ av fv, v = .tuple #[.agg (procV ((decP s).getD zeroP) av fv).toArray, .bool (decP s).isSome] ∧ Sat w' [rowT arC av ((decP s).getD zeroP).ar, rowT stC fv ((decP s).getD zeroP).fds, F]) := by
  refine calls_enter Tryz.func37 rfl Tryz.ntmps37 rfl ?_
  refine wc_seq ?_
  refine wc_region ?_
  refine wl_alloc hS zr_38 rfl rfl ?_
  intro br w1 hS1
  replace hS1 := blk_cast hS1 0 (cs' := pF [] [] (.slice none 0 0) (.slice none 0 0) [] []) rfl rfl
  refine wl_assign rfl rfl ?_
  refine wl_nil ?_
  refine qs_seq ?_
  refine wc_seq ?_
  refine wc_region ?_
  refine wl_move rfl rfl ?_
  have hC2 := hS1.split [] [false, false] rfl; dsimp only [selF, pickA, nthA, List.cons_append, List.nil_append] at hC2
  refine wl_call cal_89 rfl (r1Open_sp hC2 s) rfl ?_
  rintro e w2 ⟨_, rfl, rb, rfl, hS2⟩; refine ⟨_, rfl, ?_⟩
  replace hS2 := hS2.join rfl; dsimp only [List.dropLast, List.cons_append, List.nil_append] at hS2; clear hC2
  clear hS1
  refine wl_assign rfl rfl ?_
  refine wl_nil ?_
  refine qs_seq ?_
  refine wc_seq ?_
  have hz0 : intsR 0 (s, false) = (s, false) := intsR_zero _
  rw [show readT rb (s, false) = readT rb (intsR 0 (s, false)) by rw [hz0]] at hS2
  refine wc_region ?_
  refine wl_move rfl rfl ?_
  have hC3 := hS2.split [0] [true, false, false] rfl; dsimp only [selF, pickA, nthA, List.cons_append, List.nil_append] at hC3
  refine wl_call cal_90 rfl (r1RInt_sp hC3 (Nat.le_trans (intsR_len 0 (s, false)) (show s.length ≤ 9223372036854775806 by omega))) rfl ?_
  rintro e w3 ⟨_, rfl, rfl, hS3⟩; refine ⟨_, rfl, ?_⟩
  replace hS3 := hS3.join rfl; dsimp only [List.dropLast, List.cons_append, List.nil_append] at hS3; clear hC3
  clear hS2
  rw [iV_eq]
  rw [iR_eq] at hS3
  rw [show iR (intsR 0 (s, false)) = intsR 1 (s, false) from (intsR_succ _ _).symm] at hS3
  refine wl_move rfl rfl ?_
  have hC4 := hS3.split [0] [true, false, false] rfl; dsimp only [selF, pickA, nthA, List.cons_append, List.nil_append] at hC4
  refine wl_call cal_90 rfl (r1RInt_sp hC4 (Nat.le_trans (intsR_len 1 (s, false)) (show s.length ≤ 9223372036854775806 by omega))) rfl ?_
  rintro e w4 ⟨_, rfl, rfl, hS4⟩; refine ⟨_, rfl, ?_⟩
  replace hS4 := hS4.join rfl; dsimp only [List.dropLast, List.cons_append, List.nil_append] at hS4; clear hC4
  clear hS3
  rw [iV_eq]
  rw [iR_eq] at hS4
  rw [show iR (intsR 1 (s, false)) = intsR 2 (s, false) from (intsR_succ _ _).symm] at hS4
  refine wl_move rfl rfl ?_
  have hC5 := hS4.split [0] [true, false, false] rfl; dsimp only [selF, pickA, nthA, List.cons_append, List.nil_append] at hC5
  refine wl_call cal_90 rfl (r1RInt_sp hC5 (Nat.le_trans (intsR_len 2 (s, false)) (show s.length ≤ 9223372036854775806 by omega))) rfl ?_
  rintro e w5 ⟨_, rfl, rfl, hS5⟩; refine ⟨_, rfl, ?_⟩
  replace hS5 := hS5.join rfl; dsimp only [List.dropLast, List.cons_append, List.nil_append] at hS5; clear hC5
  clear hS4
  rw [iV_eq]
  rw [iR_eq] at hS5
  rw [show iR (intsR 2 (s, false)) = intsR 3 (s, false) from (intsR_succ _ _).symm] at hS5
  refine wl_move rfl rfl ?_
  have hC6 := hS5.split [0] [true, false, false] rfl; dsimp only [selF, pickA, nthA, List.cons_append, List.nil_append] at hC6
  refine wl_call cal_90 rfl (r1RInt_sp hC6 (Nat.le_trans (intsR_len 3 (s, false)) (show s.length ≤ 9223372036854775806 by omega))) rfl ?_
  rintro e w6 ⟨_, rfl, rfl, hS6⟩; refine ⟨_, rfl, ?_⟩
  replace hS6 := hS6.join rfl; dsimp only [List.dropLast, List.cons_append, List.nil_append] at hS6; clear hC6
  clear hS5
  rw [iV_eq]
  rw [iR_eq] at hS6
  rw [show iR (intsR 3 (s, false)) = intsR 4 (s, false) from (intsR_succ _ _).symm] at hS6
  refine wl_move rfl rfl ?_
  have hC7 := hS6.split [0] [true, false, false] rfl; dsimp only [selF, pickA, nthA, List.cons_append, List.nil_append] at hC7
  refine wl_call cal_90 rfl (r1RInt_sp hC7 (Nat.le_trans (intsR_len 4 (s, false)) (show s.length ≤ 9223372036854775806 by omega))) rfl ?_
  rintro e w7 ⟨_, rfl, rfl, hS7⟩; refine ⟨_, rfl, ?_⟩
  replace hS7 := hS7.join rfl; dsimp only [List.dropLast, List.cons_append, List.nil_append] at hS7; clear hC7
  clear hS6
  rw [iV_eq]
  rw [iR_eq] at hS7
  rw [show iR (intsR 4 (s, false)) = intsR 5 (s, false) from (intsR_succ _ _).symm] at hS7
  refine wl_move rfl rfl ?_
  have hC8 := hS7.split [0] [true, false, false] rfl; dsimp only [selF, pickA, nthA, List.cons_append, List.nil_append] at hC8
  refine wl_call cal_90 rfl (r1RInt_sp hC8 (Nat.le_trans (intsR_len 5 (s, false)) (show s.length ≤ 9223372036854775806 by omega))) rfl ?_
  rintro e w8 ⟨_, rfl, rfl, hS8⟩; refine ⟨_, rfl, ?_⟩
  replace hS8 := hS8.join rfl; dsimp only [List.dropLast, List.cons_append, List.nil_append] at hS8; clear hC8
  clear hS7
  rw [iV_eq]
  rw [iR_eq] at hS8
  rw [show iR (intsR 5 (s, false)) = intsR 6 (s, false) from (intsR_succ _ _).symm] at hS8
  refine wl_move rfl rfl ?_
  have hC9 := hS8.split [0] [true, false, false] rfl; dsimp only [selF, pickA, nthA, List.cons_append, List.nil_append] at hC9
  refine wl_call cal_90 rfl (r1RInt_sp hC9 (Nat.le_trans (intsR_len 6 (s, false)) (show s.length ≤ 9223372036854775806 by omega))) rfl ?_
  rintro e w9 ⟨_, rfl, rfl, hS9⟩; refine ⟨_, rfl, ?_⟩
  replace hS9 := hS9.join rfl; dsimp only [List.dropLast, List.cons_append, List.nil_append] at hS9; clear hC9
  clear hS8
  rw [iV_eq]
  rw [iR_eq] at hS9
  rw [show iR (intsR 6 (s, false)) = intsR 7 (s, false) from (intsR_succ _ _).symm] at hS9
  refine wl_move rfl rfl ?_
  have hC10 := hS9.split [0] [true, false, false] rfl; dsimp only [selF, pickA, nthA, List.cons_append, List.nil_append] at hC10
  refine wl_call cal_90 rfl (r1RInt_sp hC10 (Nat.le_trans (intsR_len 7 (s, false)) (show s.length ≤ 9223372036854775806 by omega))) rfl ?_
  rintro e w10 ⟨_, rfl, rfl, hS10⟩; refine ⟨_, rfl, ?_⟩
  replace hS10 := hS10.join rfl; dsimp only [List.dropLast, List.cons_append, List.nil_append] at hS10; clear hC10
  clear hS9
  rw [iV_eq]
  rw [iR_eq] at hS10
  rw [show iR (intsR 7 (s, false)) = intsR 8 (s, false) from (intsR_succ _ _).symm] at hS10
  refine wl_move rfl rfl ?_
  have hC11 := hS10.split [0] [true, false, false] rfl; dsimp only [selF, pickA, nthA, List.cons_append, List.nil_append] at hC11
  refine wl_call cal_90 rfl (r1RInt_sp hC11 (Nat.le_trans (intsR_len 8 (s, false)) (show s.length ≤ 9223372036854775806 by omega))) rfl ?_
  rintro e w11 ⟨_, rfl, rfl, hS11⟩; refine ⟨_, rfl, ?_⟩
  replace hS11 := hS11.join rfl; dsimp only [List.dropLast, List.cons_append, List.nil_append] at hS11; clear hC11
  clear hS10
  rw [iV_eq]
  rw [iR_eq] at hS11
  rw [show iR (intsR 8 (s, false)) = intsR 9 (s, false) from (intsR_succ _ _).symm] at hS11
  refine wl_move rfl rfl ?_
  have hC12 := hS11.split [0] [true, false, false] rfl; dsimp only [selF, pickA, nthA, List.cons_append, List.nil_append] at hC12
  refine wl_call cal_90 rfl (r1RInt_sp hC12 (Nat.le_trans (intsR_len 9 (s, false)) (show s.length ≤ 9223372036854775806 by omega))) rfl ?_
  rintro e w12 ⟨_, rfl, rfl, hS12⟩; refine ⟨_, rfl, ?_⟩
  replace hS12 := hS12.join rfl; dsimp only [List.dropLast, List.cons_append, List.nil_append] at hS12; clear hC12
  clear hS11
  rw [iV_eq]
  rw [iR_eq] at hS12
  rw [show iR (intsR 9 (s, false)) = intsR 10 (s, false) from (intsR_succ _ _).symm] at hS12
  have hone := pF_one (H := intsV 10 (s, false)) (T := []) (av := (.slice none 0 0)) (fv := (.slice none 0 0)) (c := []) (s := []) rfl rfl
  refine wl_buildX (vs' := pF (intsV 10 (s, false)) [] (.slice none 0 0) (.slice none 0 0) [] []) rfl pl_38_0_1_2_3_4_5_6_7_8_9 asz_38 zr_38 rfl rfl (by rw [build10]; rfl) ?_
  refine wl_alloc hS12 zr_38 rfl rfl ?_
  intro bp w13 hS13
  clear hS12
  replace hS13 := blk_cast hS13 0 (cs' := pF [] [] (.slice none 0 0) (.slice none 0 0) [] []) rfl rfl
  refine wl_storeA hS13 rfl rfl sz_38 rfl (by first | rfl | assumption) (i := 0) rfl (by first | exact Nat.le_of_ble_eq_true rfl | (rw [pF_len]; decide)) ?_
  intro w14 hS14; dsimp only [List.set] at hS14
  clear hS13
  rw [splice_all _ _ (by rfl)] at hS14
  refine wl_nil ?_
  refine qs_seq ?_
  refine wc_sub (L' := [(5, _), (4, _), (3, _), (2, _), (0, _)]) (.cons rfl (.cons rfl (.cons rfl (.cons rfl (.cons rfl .nil))))) ?_
  refine wc_seq ?_
  refine wc_seq ?_
  refine wc_region ?_
  refine wl_assign rfl rfl ?_
  refine wl_nil ?_
  refine qs_seq ?_
  refine wc_block ?_
  refine wc_loop (fun K0 E0 W0 => ∃ (i : Nat), K0 = 8 - i ∧ E0 = [(0, strV s), (2, ptrV br 0), (4, ptrV rb 0), (5, ptrV bp 0), (6, intV (i : Int))] ∧ Sat W0 [readT rb (intsR (10 + i) (s, false)), blkT bp (pF (intsV (10 + i) (s, false)) [] (.slice none 0 0) (.slice none 0 0) [] []), blkT br (pF [] [] (.slice none 0 0) (.slice none 0 0) [] []), F] ∧ (i ≤ 8)) (L0 := [(0, _), (2, _), (4, _), (5, _), (6, _)]) (8 - 0) (.cons rfl (.cons rfl (.cons rfl (.cons rfl (.cons rfl .nil))))) ⟨0, rfl, rfl, hS14.pick [1, 0, 2, 3] rfl, by omega⟩ ?_
  rintro _ _ w15 ⟨i, rfl, rfl, hS15, hi⟩
  refine wc_seq ?_
  refine wc_seq ?_
  refine wc_region ?_
  refine wl_move rfl rfl ?_
  refine wl_lss rfl rfl rfl ?_
  refine wl_nil ?_
  refine qs_seq ?_
  refine wc_condD rfl (fun h16 => ?_) (fun h16 => ?_)
  · skip
    refine wc_skip ?_
    refine qs_seq ?_
    refine wc_seq ?_
    refine wc_block ?_
    refine wc_region ?_
    refine wl_move rfl rfl ?_
    refine wl_move rfl rfl ?_
    have hC17 := hS15.split [0] [true, false, false, false] rfl; dsimp only [selF, pickA, nthA, List.cons_append, List.nil_append] at hC17
    refine wl_call cal_90 rfl (r1RInt_sp hC17 (Nat.le_trans (intsR_len (10 + i) (s, false)) (show s.length ≤ 9223372036854775806 by omega))) rfl ?_
    rintro e w17 ⟨_, rfl, rfl, hS17⟩; refine ⟨_, rfl, ?_⟩
    replace hS17 := hS17.join rfl; dsimp only [List.dropLast, List.cons_append, List.nil_append] at hS17; clear hC17
    clear hS15
    rw [iV_eq]
    rw [iR_eq] at hS17
    rw [show iR (intsR (10 + i) (s, false)) = intsR ((10 + i) + 1) (s, false) from (intsR_succ _ _).symm] at hS17
    refine wl_fieldAddr rfl fo_38_10 rfl ?_
    refine wl_fieldAddr rfl fo_29_0 rfl ?_
    refine wl_indexAddrA _ Tryz.underlying27 rfl rfl (by first | rfl | omega) (by first | omega | (simp; omega)) sz_3 rfl ?_
    refine wl_store hS17 rfl rfl sz_3 (by first | rfl | assumption) (i := 1) rfl (by rw [pF_len]; omega) ?_
    intro w18 hS18; dsimp only [List.set] at hS18
    clear hS17
    rw [hStep (a := 10 + i) (by omega) (by omega)] at hS18
    refine wl_nil ?_
    refine qs_block_normal ?_
    refine qs_seq ?_
    refine wc_sub (L' := [(0, _), (2, _), (4, _), (5, _), (6, _)]) (.cons rfl (.cons rfl (.cons rfl (.cons rfl (.cons rfl .nil))))) ?_
    refine wc_region ?_
    refine wl_move rfl rfl ?_
    refine wl_add rfl rfl (by first | omega | (simp; omega)) (by first | omega | (simp; omega)) rfl ?_
    refine wl_assign rfl rfl ?_
    refine wl_nil ?_
    exact qs_round (L1 := [(0, _), (2, _), (4, _), (5, _), (6, intV ((i + 1 : Nat) : Int))]) (.cons rfl (.cons rfl (.cons rfl (.cons rfl (.cons rfl .nil))))) (k1 := 8 - (i + 1)) (by omega) ⟨i + 1, rfl, rfl, hS18.pick [0, 1, 2, 3] rfl, by omega⟩
  refine wc_exit ?_
  refine qs_then_exit ?_
  refine qs_then_exit ?_
  refine qs_block_exit ?_
  refine qs_seq ?_
  refine wc_seq ?_
  have hi8 : 10 + i = 18 := by omega
  rw [hi8] at hS15
  refine wc_region ?_
  refine wl_move rfl rfl ?_
  have hC19 := hS15.split [0] [true, false, false, false] rfl; dsimp only [selF, pickA, nthA, List.cons_append, List.nil_append] at hC19
  refine wl_call cal_90 rfl (r1RInt_sp hC19 (Nat.le_trans (intsR_len 18 (s, false)) (show s.length ≤ 9223372036854775806 by omega))) rfl ?_
  rintro e w19 ⟨_, rfl, rfl, hS19⟩; refine ⟨_, rfl, ?_⟩
  replace hS19 := hS19.join rfl; dsimp only [List.dropLast, List.cons_append, List.nil_append] at hS19; clear hC19
  clear hS15
  rw [iV_eq]
  rw [iR_eq] at hS19
  rw [show iR (intsR 18 (s, false)) = intsR 19 (s, false) from (intsR_succ _ _).symm] at hS19
  refine wl_fieldAddr rfl fo_38_10 rfl ?_
  refine wl_fieldAddr rfl fo_29_1 rfl ?_
  refine wl_store hS19 rfl rfl sz_3 (by first | rfl | assumption) (i := 1) rfl (by rw [pF_len]; omega) ?_
  intro w20 hS20; dsimp only [List.set] at hS20
  clear hS19
  rw [hStep (a := 18) (by omega) (by omega)] at hS20
  refine wl_nil ?_
  refine qs_seq ?_
  refine wc_sub (L' := [(0, _), (2, _), (4, _), (5, _)]) (.cons rfl (.cons rfl (.cons rfl (.cons rfl .nil)))) ?_
  refine wc_seq ?_
  refine wc_region ?_
  refine wl_move rfl rfl ?_
  have hC21 := hS20.split [0] [true, false, false, false] rfl; dsimp only [selF, pickA, nthA, List.cons_append, List.nil_append] at hC21
  refine wl_call cal_91 rfl (r1RNum_sp hC21 (Nat.le_trans (intsR_len 19 (s, false)) (show s.length ≤ 9223372036854775806 by omega))) rfl ?_
  rintro e w21 ⟨_, rfl, rfl, hS21⟩; refine ⟨_, rfl, ?_⟩
  replace hS21 := hS21.join rfl; dsimp only [List.dropLast, List.cons_append, List.nil_append] at hS21; clear hC21
  clear hS20
  rw [show numV 59 0 (intsR 19 (s, false)) = nOf s from rfl]
  rw [show numR 59 0 (intsR 19 (s, false)) = r2 s from rfl] at hS21
  have hn0 : 0 ≤ nOf s := numV_nn 59 _
  refine wl_assign rfl rfl ?_
  refine wl_nil ?_
  refine qs_seq ?_
  refine wc_seq ?_
  refine wc_seq ?_
  refine wc_region ?_
  refine wl_assign rfl rfl ?_
  refine wl_nil ?_
  refine qs_seq ?_
  refine wc_block ?_
  refine wc_loop (fun K0 E0 W0 => ∃ (k : Nat) (av : Value), K0 = (nOf s).toNat - k ∧ E0 = [(0, strV s), (2, ptrV br 0), (4, ptrV rb 0), (5, ptrV bp 0), (7, intV (nOf s)), (8, intV (k : Int))] ∧ Sat W0 [readT rb (arSt k (r2 s)), blkT bp (pF (intsV 19 (s, false)) [] av (.slice none 0 0) [] []), rowT arC av (arsV k (r2 s)), blkT br (pF [] [] (.slice none 0 0) (.slice none 0 0) [] []), F] ∧ ((k : Int) ≤ nOf s) ∧ (∀ j, j < k → (arSt j (r2 s)).1 ≠ [])) (L0 := [(0, _), (2, _), (4, _), (5, _), (7, _), (8, _)]) ((nOf s).toNat - 0) (.cons rfl (.cons rfl (.cons rfl (.cons rfl (.cons rfl (.cons rfl .nil)))))) ⟨0, _, rfl, rfl, (by rw [arSt_zero, arsV_zero]; exact (hS21.row_nil arC).pick [1, 2, 0, 3, 4] rfl), by omega, by omega⟩ ?_
  rintro _ _ w22 ⟨k, av, rfl, rfl, hS22, hk, hgd⟩
  have hfw := ars_few k hgd
  have hr2 : (r2 s).1.length ≤ s.length := Nat.le_trans (numR_len _ _ _) (intsR_len 19 (s, false))
  have hal := arsV_len k (r2 s)
  have h1av : av.oneCell' = true := hS22.own_one 2 rfl
  have hyl := arSt_len k (r2 s)
  have hnv : inI (nOf s) := numV_in 59 0 (intsR 19 (s, false))
  unfold inI at hnv
  refine wc_seq ?_
  refine wc_seq ?_
  refine wc_region ?_
  refine wl_move rfl rfl ?_
  refine wl_move rfl rfl ?_
  refine wl_lss rfl rfl rfl ?_
  refine wl_move rfl rfl ?_
  refine wl_splitD 53 rfl (fun h23 => ?_) (fun h23 => ?_)
  · skip
    refine wl_guard rfl rfl (decide_eq_true h23) ?_
    refine wl_move rfl rfl ?_
    refine wl_guard rfl rfl (decide_eq_true h23) ?_
    have hC24 := hS22.split [0] [true, false, false, false, false] rfl; dsimp only [selF, pickA, nthA, List.cons_append, List.nil_append] at hC24
    refine wl_call cal_92 rfl (r1Left_sp hC24) rfl ?_
    rintro e w24 ⟨_, rfl, rfl, hS24⟩; refine ⟨_, rfl, ?_⟩
    replace hS24 := hS24.join rfl; dsimp only [List.dropLast, List.cons_append, List.nil_append] at hS24; clear hC24
    clear hS22
    refine wl_guard rfl rfl (decide_eq_true h23) ?_
    refine wl_gtr rfl rfl rfl ?_
    refine wl_pickT rfl (decide_eq_true h23) rfl rfl ?_
    refine wl_nil ?_
    refine qs_seq ?_
    refine wc_sub (L' := [(57, _), (0, _), (2, _), (4, _), (5, _), (7, _), (8, _)]) (.cons rfl (.cons rfl (.cons rfl (.cons rfl (.cons rfl (.cons rfl (.cons rfl .nil))))))) ?_
    refine wc_condD rfl (fun h25 => ?_) (fun h25 => ?_)
    · skip
      have hne : (arSt k (r2 s)).1 ≠ [] := by intro q; have h9 : (0 : Int) < ((arSt k (r2 s)).1.length : Int) := (by assumption); rw [q] at h9; simp at h9
      refine wc_skip ?_
      refine qs_seq ?_
      refine wc_seq ?_
      refine wc_block ?_
      refine wc_seq ?_
      refine wc_region ?_
      refine wl_move rfl rfl ?_
      have hC26 := hS24.split [0] [true, false, false, false, false] rfl; dsimp only [selF, pickA, nthA, List.cons_append, List.nil_append] at hC26
      refine wl_call cal_90 rfl (r1RInt_sp hC26 (by omega)) rfl ?_
      rintro e w26 ⟨_, rfl, rfl, hS26⟩; refine ⟨_, rfl, ?_⟩
      replace hS26 := hS26.join rfl; dsimp only [List.dropLast, List.cons_append, List.nil_append] at hS26; clear hC26
      clear hS24
      rw [iV_eq]
      rw [iR_eq] at hS26
      have hl1 := iR_len (arSt k (r2 s))
      refine wl_move rfl rfl ?_
      have hC27 := hS26.split [0] [true, false, false, false, false] rfl; dsimp only [selF, pickA, nthA, List.cons_append, List.nil_append] at hC27
      refine wl_call cal_90 rfl (r1RInt_sp hC27 (by omega)) rfl ?_
      rintro e w27 ⟨_, rfl, rfl, hS27⟩; refine ⟨_, rfl, ?_⟩
      replace hS27 := hS27.join rfl; dsimp only [List.dropLast, List.cons_append, List.nil_append] at hS27; clear hC27
      clear hS26
      rw [iV_eq]
      rw [iR_eq] at hS27
      have hl2 := iR_len (iR (arSt k (r2 s)))
      refine wl_buildS rfl pl_89_0_1 asz_89 zr_89 rfl rfl ?_
      refine wl_alloc hS27 zr_89 rfl rfl ?_
      intro ba w28 hS28
      clear hS27
      first | (refine wl_storeA hS28 rfl rfl sz_89 rfl (by first | rfl | (simp [allOne, Value.oneCell']; done) | assumption | exact hone) (i := 0) rfl (by first | decide | exact Nat.le_of_ble_eq_true rfl | (simp; done) | omega) ?_) | (refine wl_storeA hS28 rfl rfl sz_89 rfl (by first | rfl | (simp [allOne, Value.oneCell']; done) | assumption | exact hone) (i := 2) rfl (by first | decide | exact Nat.le_of_ble_eq_true rfl | (simp; done) | omega) ?_) | (refine wl_storeA hS28 rfl rfl sz_89 rfl (by first | rfl | (simp [allOne, Value.oneCell']; done) | assumption | exact hone) (i := 4) rfl (by first | decide | exact Nat.le_of_ble_eq_true rfl | (simp; done) | omega) ?_)
      intro w29 hS30; dsimp only [List.set] at hS30
      clear hS28
      refine wl_nil ?_
      have hS31n : Sat w29 (blkT ba [intV (iV (arSt k (r2 s))), intV (iV (iR (arSt k (r2 s)))), strV [], intV 0, .bool false, .bool false] :: _) := hS30
      clear hS30
      refine qs_seq ?_
      refine wc_sub (L' := [(9, _), (0, _), (2, _), (4, _), (5, _), (7, _), (8, _)]) (.cons rfl (.cons rfl (.cons rfl (.cons rfl (.cons rfl (.cons rfl (.cons rfl .nil))))))) ?_
      refine wc_seq ?_
      have hok2 : OkR (numR 59 0 (intsR 19 (s, false))) := (okR_ints (fun q => by cases q) 19).num 59 0
      have hoka := okR_ars (z := r2 s) hok2 k
      have hokt : OkR (iR (iR (arSt k (r2 s)))) := by unfold iR; exact (hoka.num _ _).num _ _
      refine wc_region ?_
      refine wl_move rfl rfl ?_
      have hC32 := hS31n.split [1] [false, true, false, false, false, false] rfl; dsimp only [selF, pickA, nthA, List.cons_append, List.nil_append] at hC32
      refine wl_call cal_93 rfl (r1RText_sp hC32 hokt (by omega)) rfl ?_
      rintro e w32 ⟨_, rfl, rfl, hS32⟩; refine ⟨_, rfl, ?_⟩
      replace hS32 := hS32.join rfl; dsimp only [List.dropLast, List.cons_append, List.nil_append] at hS32; clear hC32
      clear hS31n
      have hl3 := txtR_len (iR (iR (arSt k (r2 s))))
      refine wl_fieldAddr rfl fo_89_2 rfl ?_
      first | (refine wl_store hS32 rfl rfl sz_9 (by first | rfl | assumption | exact hS32.own_one 3 rfl) (i := 1) rfl (by first | decide | exact Nat.le_of_ble_eq_true rfl | (simp; done) | omega) ?_) | (refine wl_store hS32 rfl rfl sz_9 (by first | rfl | assumption | exact hS32.own_one 3 rfl) (i := 2) rfl (by first | decide | exact Nat.le_of_ble_eq_true rfl | (simp; done) | omega) ?_) | (refine wl_store hS32 rfl rfl sz_9 (by first | rfl | assumption | exact hS32.own_one 3 rfl) (i := 4) rfl (by first | decide | exact Nat.le_of_ble_eq_true rfl | (simp; done) | omega) ?_)
      intro w33 hS34; dsimp only [List.set] at hS34
      clear hS32
      refine wl_nil ?_
      refine qs_seq ?_
      refine wc_seq ?_
      refine wc_region ?_
      refine wl_move rfl rfl ?_
      have hC35 := hS34.split [0] [true, false, false, false, false, false] rfl; dsimp only [selF, pickA, nthA, List.cons_append, List.nil_append] at hC35
      refine wl_call cal_90 rfl (r1RInt_sp hC35 (by omega)) rfl ?_
      rintro e w35 ⟨_, rfl, rfl, hS35⟩; refine ⟨_, rfl, ?_⟩
      replace hS35 := hS35.join rfl; dsimp only [List.dropLast, List.cons_append, List.nil_append] at hS35; clear hC35
      clear hS34
      rw [iV_eq]
      rw [iR_eq] at hS35
      have hl4 := iR_len (txtR (iR (iR (arSt k (r2 s)))))
      refine wl_fieldAddr rfl fo_89_3 rfl ?_
      first | (refine wl_store hS35 rfl rfl sz_3 (by first | rfl | assumption | exact hS35.own_one 3 rfl) (i := 1) rfl (by first | decide | exact Nat.le_of_ble_eq_true rfl | (simp; done) | omega) ?_) | (refine wl_store hS35 rfl rfl sz_3 (by first | rfl | assumption | exact hS35.own_one 3 rfl) (i := 2) rfl (by first | decide | exact Nat.le_of_ble_eq_true rfl | (simp; done) | omega) ?_) | (refine wl_store hS35 rfl rfl sz_3 (by first | rfl | assumption | exact hS35.own_one 3 rfl) (i := 4) rfl (by first | decide | exact Nat.le_of_ble_eq_true rfl | (simp; done) | omega) ?_)
      intro w36 hS37; dsimp only [List.set] at hS37
      clear hS35
      refine wl_nil ?_
      refine qs_seq ?_
      refine wc_sub (L' := [(9, _), (0, _), (2, _), (4, _), (5, _), (7, _), (8, _)]) (.cons rfl (.cons rfl (.cons rfl (.cons rfl (.cons rfl (.cons rfl (.cons rfl .nil))))))) ?_
      refine wc_seq ?_
      refine wc_region ?_
      refine wl_move rfl rfl ?_
      have hC38 := hS37.split [0] [true, false, false, false, false, false] rfl; dsimp only [selF, pickA, nthA, List.cons_append, List.nil_append] at hC38
      refine wl_call cal_90 rfl (r1RInt_sp hC38 (by omega)) rfl ?_
      rintro e w38 ⟨_, rfl, rfl, hS38⟩; refine ⟨_, rfl, ?_⟩
      replace hS38 := hS38.join rfl; dsimp only [List.dropLast, List.cons_append, List.nil_append] at hS38; clear hC38
      clear hS37
      rw [iV_eq]
      rw [iR_eq] at hS38
      have hl5 := iR_len (iR (txtR (iR (iR (arSt k (r2 s))))))
      refine wl_eql rfl rfl rfl ?_
      refine wl_fieldAddr rfl fo_89_4 rfl ?_
      first | (refine wl_store hS38 rfl rfl sz_4 (by first | rfl | assumption | exact hS38.own_one 3 rfl) (i := 1) rfl (by first | decide | exact Nat.le_of_ble_eq_true rfl | (simp; done) | omega) ?_) | (refine wl_store hS38 rfl rfl sz_4 (by first | rfl | assumption | exact hS38.own_one 3 rfl) (i := 2) rfl (by first | decide | exact Nat.le_of_ble_eq_true rfl | (simp; done) | omega) ?_) | (refine wl_store hS38 rfl rfl sz_4 (by first | rfl | assumption | exact hS38.own_one 3 rfl) (i := 4) rfl (by first | decide | exact Nat.le_of_ble_eq_true rfl | (simp; done) | omega) ?_)
      intro w39 hS40; dsimp only [List.set] at hS40
      clear hS38
      refine wl_nil ?_
      refine qs_seq ?_
      refine wc_sub (L' := [(9, _), (0, _), (2, _), (4, _), (5, _), (7, _), (8, _)]) (.cons rfl (.cons rfl (.cons rfl (.cons rfl (.cons rfl (.cons rfl (.cons rfl .nil))))))) ?_
      refine wc_seq ?_
      refine wc_region ?_
      refine wl_move rfl rfl ?_
      have hC41 := hS40.split [0] [true, false, false, false, false, false] rfl; dsimp only [selF, pickA, nthA, List.cons_append, List.nil_append] at hC41
      refine wl_call cal_90 rfl (r1RInt_sp hC41 (by omega)) rfl ?_
      rintro e w41 ⟨_, rfl, rfl, hS41⟩; refine ⟨_, rfl, ?_⟩
      replace hS41 := hS41.join rfl; dsimp only [List.dropLast, List.cons_append, List.nil_append] at hS41; clear hC41
      clear hS40
      rw [iV_eq]
      rw [iR_eq] at hS41
      refine wl_eql rfl rfl rfl ?_
      refine wl_fieldAddr rfl fo_89_5 rfl ?_
      first | (refine wl_store hS41 rfl rfl sz_4 (by first | rfl | assumption | exact hS41.own_one 3 rfl) (i := 1) rfl (by first | decide | exact Nat.le_of_ble_eq_true rfl | (simp; done) | omega) ?_) | (refine wl_store hS41 rfl rfl sz_4 (by first | rfl | assumption | exact hS41.own_one 3 rfl) (i := 2) rfl (by first | decide | exact Nat.le_of_ble_eq_true rfl | (simp; done) | omega) ?_) | (refine wl_store hS41 rfl rfl sz_4 (by first | rfl | assumption | exact hS41.own_one 3 rfl) (i := 4) rfl (by first | decide | exact Nat.le_of_ble_eq_true rfl | (simp; done) | omega) ?_)
      intro w42 hS43; dsimp only [List.set] at hS43
      clear hS41
      refine wl_nil ?_
      refine qs_seq ?_
      refine wc_sub (L' := [(9, _), (0, _), (2, _), (4, _), (5, _), (7, _), (8, _)]) (.cons rfl (.cons rfl (.cons rfl (.cons rfl (.cons rfl (.cons rfl (.cons rfl .nil))))))) ?_
      refine wc_region ?_
      refine wl_fieldAddr rfl fo_38_11 rfl ?_
      refine wl_load rfl ag_30 (hS43.cell 2 (o := 19) rfl rfl) rfl ?_
      refine wl_loadA rfl ag_89 sz_89 (by first | exact hS43.blk 1 rfl | exact hS43.blk 2 rfl | exact hS43.blk 4 rfl) (by first | decide | exact Nat.le_of_ble_eq_true rfl | (simp; done) | omega) rfl rfl ?_
      refine wl_rowBuild arC [arV (arSt k (r2 s))] hS43 rfl Tryz.underlying30 ifz_89 rfl rfl rfl rfl (by first | rfl | simp [RowC.cells, fillL, splice]) rfl ?_
      intro b44 w44 hS44
      clear hS43
      refine wl_rowApp arC 4 hS44 rfl rfl rfl (hS44.rd 0 rfl (by simp)) Tryz.underlying30 Tryz.underlying30 (by intro k hk; cases hk) ifo_89 rfl (by simp only [List.length_cons, List.length_nil]; omega) rfl (by simp only [List.length_cons, List.length_nil]; omega) ?_
      intro v45 w45 hS45; dsimp only [List.set] at hS45
      clear hS44
      have h1v45 : v45.oneCell' = true := hS45.own_one 4 rfl
      refine wl_fieldAddr rfl fo_38_11 rfl ?_
      refine wl_store hS45 rfl rfl sz_30 (by first | rfl | assumption | exact hS45.own_one 0 rfl | exact hS45.own_one 4 rfl) (i := 3) rfl (by rw [pF_len]; omega) ?_
      intro w46 hS46; dsimp only [List.set] at hS46
      clear hS45
      rw [pF_av] at hS46
      refine wl_nil ?_
      refine qs_block_normal ?_
      refine qs_seq ?_
      refine wc_sub (L' := [(0, _), (2, _), (4, _), (5, _), (7, _), (8, _)]) (.cons rfl (.cons rfl (.cons rfl (.cons rfl (.cons rfl (.cons rfl .nil)))))) ?_
      refine wc_region ?_
      refine wl_move rfl rfl ?_
      refine wl_add rfl rfl (by first | omega | (simp; omega)) (by first | omega | (simp; omega)) rfl ?_
      refine wl_assign rfl rfl ?_
      refine wl_nil ?_
      exact qs_round (L1 := [(0, _), (2, _), (4, _), (5, _), (7, _), (8, intV ((k + 1 : Nat) : Int))]) (.cons rfl (.cons rfl (.cons rfl (.cons rfl (.cons rfl (.cons rfl .nil)))))) (k1 := (nOf s).toNat - (k + 1)) (by omega) ⟨k + 1, _, rfl, rfl, (by rw [arsV_succ, arSt_succ]; exact hS46.pick [1, 3, 4, 5, 6] rfl), by omega, fun j hj => by by_cases e : j = k; (subst e; exact hne); exact hgd j (by omega)⟩
    refine wc_exit ?_
    refine qs_then_exit ?_
    refine qs_then_exit ?_
    refine qs_block_exit ?_
    refine qs_seq ?_
    refine wc_seq ?_
    have hAE : ArEnd (nOf s) (r2 s) k := ⟨hk, hgd, by by_cases q : (k : Int) = nOf s; exact .inl q; exact .inr (by have h7 : ¬ (k : Int) < nOf s ∨ ¬ (0 : Int) < ((arSt k (r2 s)).1.length : Int) := (by first | (left; omega) | (right; assumption)); rcases h7 with h7 | h7; omega; exact List.length_eq_zero_iff.1 (by omega))⟩
    have hok3 : OkR (r3 s k) := okR_ars (z := r2 s) ((okR_ints (fun q => by cases q) 19).num 59 0) k
    rw [show (arSt k (r2 s)) = r3 s k from rfl] at hS24
    have hl3 : (r3 s k).1.length ≤ s.length := Nat.le_trans hyl hr2
    refine wc_region ?_
    refine wl_move rfl rfl ?_
    have hC47 := hS24.split [0] [true, false, false, false, false] rfl; dsimp only [selF, pickA, nthA, List.cons_append, List.nil_append] at hC47
    refine wl_call cal_94 rfl (r1RTexts_sp hC47 hok3 (by omega)) rfl ?_
    rintro e w47 ⟨_, rfl, m, hm, hS47⟩; refine ⟨_, rfl, ?_⟩
    replace hS47 := hS47.join rfl; dsimp only [List.dropLast, List.cons_append, List.nil_append] at hS47; clear hC47
    clear hS24
    have hE : Ends s k m := ⟨hAE, hm⟩
    rw [show cutV 93 (txSt m (numR 91 0 (r3 s k))) = r5 s k m from rfl] at hS47
    have hl4 : (r5 s k m).1.length ≤ s.length := by have h1 := txSt_len m (r4 s k); have h2 : (r4 s k).1.length ≤ (r3 s k).1.length := numR_len _ _ _; have h3 : (r5 s k m).1.length ≤ (txSt m (r4 s k)).1.length := cut_len _ _; omega
    have hok5 : OkR (r5 s k m) := okR_cut (okR_txs (hok3.num 91 0) m) 93
    refine wl_fieldAddr rfl fo_38_12 rfl ?_
    refine wl_store hS47 rfl rfl sz_31 (by first | rfl | assumption | exact hS47.own_one 0 rfl | exact hS47.own_one 3 rfl) (i := 2) rfl (by rw [pF_len]; omega) ?_
    intro w48 hS48; dsimp only [List.set] at hS48
    clear hS47
    rw [pF_fv] at hS48
    refine wl_nil ?_
    refine qs_seq ?_
    refine wc_seq ?_
    refine wc_region ?_
    refine wl_move rfl rfl ?_
    have hC49 := hS48.split [1] [false, true, false, false, false, false] rfl; dsimp only [selF, pickA, nthA, List.cons_append, List.nil_append] at hC49
    refine wl_call cal_93 rfl (r1RText_sp hC49 hok5 (by omega)) rfl ?_
    rintro e w49 ⟨_, rfl, rfl, hS49⟩; refine ⟨_, rfl, ?_⟩
    replace hS49 := hS49.join rfl; dsimp only [List.dropLast, List.cons_append, List.nil_append] at hS49; clear hC49
    clear hS48
    rw [show txtR (r5 s k m) = (r6 s k m) from rfl] at hS49
    have hok6 : OkR (r6 s k m) := hok5.txt
    have hl6 : (r6 s k m).1.length ≤ s.length := Nat.le_trans (txtR_len _) hl4
    have hz6 : intsR 0 (r6 s k m) = (r6 s k m) := intsR_zero _
    have hv6 : intsV 0 (r6 s k m) = [] := intsV_zero _
    refine wl_fieldAddr rfl fo_38_13 rfl ?_
    refine wl_store hS49 rfl rfl sz_9 (by first | rfl | assumption | exact hS49.own_one 1 rfl | exact hS49.own_one 3 rfl) (i := 2) rfl (by rw [pF_len]; omega) ?_
    intro w50 hS50; dsimp only [List.set] at hS50
    clear hS49
    rw [pF_c] at hS50
    refine wl_nil ?_
    refine qs_seq ?_
    refine wc_sub (L' := [(0, _), (2, _), (4, _), (5, _)]) (.cons rfl (.cons rfl (.cons rfl (.cons rfl .nil)))) ?_
    refine wc_seq ?_
    rw [show readT rb (r6 s k m) = readT rb (intsR 0 (r6 s k m)) by rw [hz6]] at hS50
    rw [show pF (intsV 19 (s, false)) [] av _ (txtV (r5 s k m)) [] = pF (intsV 19 (s, false)) (intsV 0 (r6 s k m)) av _ (txtV (r5 s k m)) [] by rw [hv6]] at hS50
    refine wc_region ?_
    refine wl_move rfl rfl ?_
    have hC51 := hS50.split [0] [true, false, false, false, false, false] rfl; dsimp only [selF, pickA, nthA, List.cons_append, List.nil_append] at hC51
    refine wl_call cal_90 rfl (r1RInt_sp hC51 (Nat.le_trans (intsR_len 0 (r6 s k m)) (by omega))) rfl ?_
    rintro e w51 ⟨_, rfl, rfl, hS51⟩; refine ⟨_, rfl, ?_⟩
    replace hS51 := hS51.join rfl; dsimp only [List.dropLast, List.cons_append, List.nil_append] at hS51; clear hC51
    clear hS50
    rw [iV_eq]
    rw [iR_eq] at hS51
    rw [show iR (intsR 0 (r6 s k m)) = intsR 1 (r6 s k m) from (intsR_succ _ _).symm] at hS51
    refine wl_fieldAddr rfl fo_38_14 rfl ?_
    refine wl_store hS51 rfl rfl sz_3 (by first | rfl | assumption | exact hS51.own_one 1 rfl | exact hS51.own_one 3 rfl) (i := 2) rfl (by rw [pF_len]; omega) ?_
    intro w52 hS52; dsimp only [List.set] at hS52
    clear hS51
    rw [tStep (a := 0) (by omega) (by omega) (by omega)] at hS52
    refine wl_nil ?_
    refine qs_seq ?_
    refine wc_seq ?_
    refine wc_region ?_
    refine wl_move rfl rfl ?_
    have hC53 := hS52.split [0] [true, false, false, false, false, false] rfl; dsimp only [selF, pickA, nthA, List.cons_append, List.nil_append] at hC53
    refine wl_call cal_90 rfl (r1RInt_sp hC53 (Nat.le_trans (intsR_len 1 (r6 s k m)) (by omega))) rfl ?_
    rintro e w53 ⟨_, rfl, rfl, hS53⟩; refine ⟨_, rfl, ?_⟩
    replace hS53 := hS53.join rfl; dsimp only [List.dropLast, List.cons_append, List.nil_append] at hS53; clear hC53
    clear hS52
    rw [iV_eq]
    rw [iR_eq] at hS53
    rw [show iR (intsR 1 (r6 s k m)) = intsR 2 (r6 s k m) from (intsR_succ _ _).symm] at hS53
    refine wl_fieldAddr rfl fo_38_15 rfl ?_
    refine wl_store hS53 rfl rfl sz_3 (by first | rfl | assumption | exact hS53.own_one 1 rfl | exact hS53.own_one 3 rfl) (i := 2) rfl (by rw [pF_len]; omega) ?_
    intro w54 hS54; dsimp only [List.set] at hS54
    clear hS53
    rw [tStep (a := 1) (by omega) (by omega) (by omega)] at hS54
    refine wl_nil ?_
    refine qs_seq ?_
    refine wc_seq ?_
    refine wc_seq ?_
    refine wc_region ?_
    refine wl_assign rfl rfl ?_
    refine wl_nil ?_
    refine qs_seq ?_
    refine wc_sub (L' := [(10, _), (0, _), (2, _), (4, _), (5, _)]) (.cons rfl (.cons rfl (.cons rfl (.cons rfl (.cons rfl .nil))))) ?_
    refine wc_block ?_
    refine wc_loop (fun K0 E0 W0 => ∃ (i : Nat) (fv : Value), K0 = 16 - i ∧ E0 = [(0, strV s), (2, ptrV br 0), (4, ptrV rb 0), (5, ptrV bp 0), (10, intV (i : Int))] ∧ Sat W0 [readT rb (intsR (2 + 2 * i) (r6 s k m)), blkT bp (pF (intsV 19 (s, false)) (intsV (2 + 2 * i) (r6 s k m)) av fv (txtV (r5 s k m)) []), rowT arC av (arsV k (r2 s)), rowT stC fv (txOut m (r3 s k)), blkT br (pF [] [] (.slice none 0 0) (.slice none 0 0) [] []), F] ∧ (i ≤ 16)) (L0 := [(0, _), (2, _), (4, _), (5, _), (10, _)]) (16 - 0) (.cons rfl (.cons rfl (.cons rfl (.cons rfl (.cons rfl .nil))))) ⟨0, _, rfl, rfl, hS54.pick [0, 2, 3, 1, 4, 5] rfl, by omega⟩ ?_
    rintro _ _ w55 ⟨i, fv, rfl, rfl, hS55, hi⟩
    refine wc_seq ?_
    refine wc_seq ?_
    refine wc_region ?_
    refine wl_move rfl rfl ?_
    refine wl_lss rfl rfl rfl ?_
    refine wl_nil ?_
    refine qs_seq ?_
    refine wc_condD rfl (fun h56 => ?_) (fun h56 => ?_)
    · skip
      refine wc_skip ?_
      refine qs_seq ?_
      refine wc_seq ?_
      refine wc_block ?_
      refine wc_seq ?_
      refine wc_region ?_
      refine wl_move rfl rfl ?_
      refine wl_move rfl rfl ?_
      have hC57 := hS55.split [0] [true, false, false, false, false, false] rfl; dsimp only [selF, pickA, nthA, List.cons_append, List.nil_append] at hC57
      refine wl_call cal_90 rfl (r1RInt_sp hC57 (Nat.le_trans (intsR_len (2 + 2 * i) (r6 s k m)) (by omega))) rfl ?_
      rintro e w57 ⟨_, rfl, rfl, hS57⟩; refine ⟨_, rfl, ?_⟩
      replace hS57 := hS57.join rfl; dsimp only [List.dropLast, List.cons_append, List.nil_append] at hS57; clear hC57
      clear hS55
      rw [iV_eq]
      rw [iR_eq] at hS57
      rw [show iR (intsR (2 + 2 * i) (r6 s k m)) = intsR ((2 + 2 * i) + 1) (r6 s k m) from (intsR_succ _ _).symm] at hS57
      refine wl_fieldAddr rfl fo_38_16 rfl ?_
      refine wl_indexAddrA _ Tryz.underlying34 rfl rfl (by first | rfl | omega) (by first | omega | (simp; omega)) sz_33 rfl ?_
      refine wl_fieldAddr rfl fo_33_0 rfl ?_
      refine wl_store hS57 rfl rfl sz_3 (by first | rfl | assumption | exact hS57.own_one 2 rfl | exact hS57.own_one 3 rfl) (i := 1) rfl (by rw [pF_len]; omega) ?_
      intro w58 hS58; dsimp only [List.set] at hS58
      clear hS57
      rw [tStep (a := 2 + 2 * i) (by omega) (by omega) (by omega)] at hS58
      refine wl_nil ?_
      refine qs_seq ?_
      refine wc_sub (L' := [(0, _), (2, _), (4, _), (5, _), (10, _)]) (.cons rfl (.cons rfl (.cons rfl (.cons rfl (.cons rfl .nil))))) ?_
      rw [show 2 + 2 * i + 1 = 3 + 2 * i by omega] at hS58
      refine wc_region ?_
      refine wl_move rfl rfl ?_
      refine wl_move rfl rfl ?_
      have hC59 := hS58.split [0] [true, false, false, false, false, false] rfl; dsimp only [selF, pickA, nthA, List.cons_append, List.nil_append] at hC59
      refine wl_call cal_90 rfl (r1RInt_sp hC59 (Nat.le_trans (intsR_len (3 + 2 * i) (r6 s k m)) (by omega))) rfl ?_
      rintro e w59 ⟨_, rfl, rfl, hS59⟩; refine ⟨_, rfl, ?_⟩
      replace hS59 := hS59.join rfl; dsimp only [List.dropLast, List.cons_append, List.nil_append] at hS59; clear hC59
      clear hS58
      rw [iV_eq]
      rw [iR_eq] at hS59
      rw [show iR (intsR (3 + 2 * i) (r6 s k m)) = intsR ((3 + 2 * i) + 1) (r6 s k m) from (intsR_succ _ _).symm] at hS59
      refine wl_eql rfl rfl rfl ?_
      refine wl_fieldAddr rfl fo_38_16 rfl ?_
      refine wl_indexAddrA _ Tryz.underlying34 rfl rfl (by first | rfl | omega) (by first | omega | (simp; omega)) sz_33 rfl ?_
      refine wl_fieldAddr rfl fo_33_1 rfl ?_
      refine wl_store hS59 rfl rfl sz_4 (by first | rfl | assumption | exact hS59.own_one 2 rfl | exact hS59.own_one 3 rfl) (i := 1) rfl (by rw [pF_len]; omega) ?_
      intro w60 hS60; dsimp only [List.set] at hS60
      clear hS59
      rw [flgT (i := i) (a := 3 + 2 * i) rfl (by omega) (by omega)] at hS60
      refine wl_nil ?_
      refine qs_block_normal ?_
      refine qs_seq ?_
      refine wc_sub (L' := [(0, _), (2, _), (4, _), (5, _), (10, _)]) (.cons rfl (.cons rfl (.cons rfl (.cons rfl (.cons rfl .nil))))) ?_
      refine wc_region ?_
      refine wl_move rfl rfl ?_
      refine wl_add rfl rfl (by first | omega | (simp; omega)) (by first | omega | (simp; omega)) rfl ?_
      refine wl_assign rfl rfl ?_
      refine wl_nil ?_
      exact qs_round (L1 := [(0, _), (2, _), (4, _), (5, _), (10, intV ((i + 1 : Nat) : Int))]) (.cons rfl (.cons rfl (.cons rfl (.cons rfl (.cons rfl .nil))))) (k1 := 16 - (i + 1)) (by omega) ⟨i + 1, _, rfl, rfl, (by rw [show 2 + 2 * (i + 1) = 3 + 2 * i + 1 by omega]; exact hS60.pick [0, 1, 2, 3, 4, 5] rfl), by omega⟩
    refine wc_exit ?_
    refine qs_then_exit ?_
    refine qs_then_exit ?_
    refine qs_block_exit ?_
    refine qs_seq ?_
    refine wc_seq ?_
    have hi16 : 2 + 2 * i = 34 := by omega
    rw [hi16] at hS55
    refine wc_region ?_
    refine wl_move rfl rfl ?_
    have hC61 := hS55.split [0] [true, false, false, false, false, false] rfl; dsimp only [selF, pickA, nthA, List.cons_append, List.nil_append] at hC61
    refine wl_call cal_90 rfl (r1RInt_sp hC61 (Nat.le_trans (intsR_len 34 (r6 s k m)) (by omega))) rfl ?_
    rintro e w61 ⟨_, rfl, rfl, hS61⟩; refine ⟨_, rfl, ?_⟩
    replace hS61 := hS61.join rfl; dsimp only [List.dropLast, List.cons_append, List.nil_append] at hS61; clear hC61
    clear hS55
    rw [iV_eq]
    rw [iR_eq] at hS61
    rw [show iR (intsR 34 (r6 s k m)) = intsR 35 (r6 s k m) from (intsR_succ _ _).symm] at hS61
    refine wl_move rfl rfl ?_
    have hC62 := hS61.split [0] [true, false, false, false, false, false] rfl; dsimp only [selF, pickA, nthA, List.cons_append, List.nil_append] at hC62
    refine wl_call cal_90 rfl (r1RInt_sp hC62 (Nat.le_trans (intsR_len 35 (r6 s k m)) (by omega))) rfl ?_
    rintro e w62 ⟨_, rfl, rfl, hS62⟩; refine ⟨_, rfl, ?_⟩
    replace hS62 := hS62.join rfl; dsimp only [List.dropLast, List.cons_append, List.nil_append] at hS62; clear hC62
    clear hS61
    rw [iV_eq]
    rw [iR_eq] at hS62
    rw [show iR (intsR 35 (r6 s k m)) = intsR 36 (r6 s k m) from (intsR_succ _ _).symm] at hS62
    refine wl_move rfl rfl ?_
    have hC63 := hS62.split [0] [true, false, false, false, false, false] rfl; dsimp only [selF, pickA, nthA, List.cons_append, List.nil_append] at hC63
    refine wl_call cal_90 rfl (r1RInt_sp hC63 (Nat.le_trans (intsR_len 36 (r6 s k m)) (by omega))) rfl ?_
    rintro e w63 ⟨_, rfl, rfl, hS63⟩; refine ⟨_, rfl, ?_⟩
    replace hS63 := hS63.join rfl; dsimp only [List.dropLast, List.cons_append, List.nil_append] at hS63; clear hC63
    clear hS62
    rw [iV_eq]
    rw [iR_eq] at hS63
    rw [show iR (intsR 36 (r6 s k m)) = intsR 37 (r6 s k m) from (intsR_succ _ _).symm] at hS63
    refine wl_buildS rfl pl_36_0_1_2 asz_36 zr_36 rfl rfl ?_
    refine wl_fieldAddr rfl fo_38_17 rfl ?_
    refine wl_storeA hS63 rfl rfl sz_36 rfl rfl (i := 1) rfl (by rw [pF_len]; decide) ?_
    intro w64 hS64; dsimp only [List.set] at hS64
    clear hS63
    replace hS64 := blk_cast hS64 1 (cs' := (pF (intsV 19 (s, false)) (intsV 37 (r6 s k m)) av fv (txtV (r5 s k m)) [])) rfl waitStep; dsimp only [List.set] at hS64
    refine wl_nil ?_
    refine qs_seq ?_
    refine wc_sub (L' := [(0, _), (2, _), (4, _), (5, _)]) (.cons rfl (.cons rfl (.cons rfl (.cons rfl .nil)))) ?_
    refine wc_seq ?_
    refine wc_region ?_
    refine wl_move rfl rfl ?_
    have hC65 := hS64.split [0] [true, false, false, false, false, false] rfl; dsimp only [selF, pickA, nthA, List.cons_append, List.nil_append] at hC65
    refine wl_call cal_90 rfl (r1RInt_sp hC65 (Nat.le_trans (intsR_len 37 (r6 s k m)) (by omega))) rfl ?_
    rintro e w65 ⟨_, rfl, rfl, hS65⟩; refine ⟨_, rfl, ?_⟩
    replace hS65 := hS65.join rfl; dsimp only [List.dropLast, List.cons_append, List.nil_append] at hS65; clear hC65
    clear hS64
    rw [iV_eq]
    rw [iR_eq] at hS65
    rw [show iR (intsR 37 (r6 s k m)) = intsR 38 (r6 s k m) from (intsR_succ _ _).symm] at hS65
    refine wl_fieldAddr rfl fo_38_18 rfl ?_
    refine wl_store hS65 rfl rfl sz_3 (by first | rfl | assumption | exact hS65.own_one 2 rfl | exact hS65.own_one 3 rfl) (i := 1) rfl (by rw [pF_len]; omega) ?_
    intro w66 hS66; dsimp only [List.set] at hS66
    clear hS65
    rw [tStep (a := 37) (by omega) (by omega) (by omega)] at hS66
    refine wl_nil ?_
    refine qs_seq ?_
    refine wc_seq ?_
    rw [show intsR 38 (r6 s k m) = r7 s k m from rfl] at hS66
    refine wc_region ?_
    refine wl_move rfl rfl ?_
    have hC67 := hS66.split [0] [true, false, false, false, false, false] rfl; dsimp only [selF, pickA, nthA, List.cons_append, List.nil_append] at hC67
    refine wl_call cal_93 rfl (r1RText_sp hC67 (okR_ints hok6 38) (Nat.le_trans (intsR_len 38 (r6 s k m)) (by omega))) rfl ?_
    rintro e w67 ⟨_, rfl, rfl, hS67⟩; refine ⟨_, rfl, ?_⟩
    replace hS67 := hS67.join rfl; dsimp only [List.dropLast, List.cons_append, List.nil_append] at hS67; clear hC67
    clear hS66
    rw [show txtR (r7 s k m) = r8 s k m from rfl] at hS67
    refine wl_fieldAddr rfl fo_38_19 rfl ?_
    refine wl_store hS67 rfl rfl sz_9 (by first | rfl | assumption | exact hS67.own_one 2 rfl | exact hS67.own_one 3 rfl) (i := 1) rfl (by rw [pF_len]; omega) ?_
    intro w68 hS68; dsimp only [List.set] at hS68
    clear hS67
    rw [pF_s] at hS68
    refine wl_nil ?_
    refine qs_seq ?_
    refine wc_seq ?_
    refine wc_seq ?_
    have hpx : pF (intsV 19 (s, false)) (intsV 38 (r6 s k m)) av fv (txtV (r5 s k m)) (txtV (r7 s k m)) = procV (recQ s k m) av fv := by rw [procV_eq]; exact (pF_norm _ _ _ _ _ _).symm
    rw [hpx] at hS68
    have hwq := recQ_wf hE hs
    have hdq := dec_q hE hs
    refine wc_region ?_
    refine wl_move rfl rfl ?_
    have hC69 := hS68.split [0] [true, false, false, false, false, false] rfl; dsimp only [selF, pickA, nthA, List.cons_append, List.nil_append] at hC69
    refine wl_call cal_95 rfl (r1Done_sp hC69) rfl ?_
    rintro e w69 ⟨_, rfl, rfl, hS69⟩; refine ⟨_, rfl, ?_⟩
    replace hS69 := hS69.join rfl; dsimp only [List.dropLast, List.cons_append, List.nil_append] at hS69; clear hC69
    clear hS68
    refine wl_not rfl rfl ?_
    refine wl_move rfl rfl ?_
    refine wl_split 131 rfl (fun h70 => ?_) (fun h70 => ?_)
    · skip
      have hdn : doneQ s k m = false := by unfold doneQ; exact not_t (by assumption)
      refine wl_unwanted rfl rfl h70 rfl ?_
      refine wl_unwanted rfl rfl h70 rfl ?_
      refine wl_unwanted rfl rfl h70 rfl ?_
      refine wl_unwanted rfl rfl h70 rfl ?_
      refine wl_pickT rfl h70 rfl rfl ?_
      refine wl_nil ?_
      refine qs_seq ?_
      refine wc_sub (L' := [(136, _), (2, _), (5, _)]) (.cons rfl (.cons rfl (.cons rfl .nil))) ?_
      refine wc_condT rfl ?_
      refine wc_seq ?_
      refine wc_region ?_
      refine wl_buildS rfl pl_38_ asz_38 zr_38 rfl rfl ?_
      first | (refine wl_storeA hS69 rfl rfl sz_38 rfl (by first | rfl | (simp [allOne, Value.oneCell']; done) | assumption | exact hone) (i := 1) rfl (by first | decide | exact Nat.le_of_ble_eq_true rfl | (simp; done) | omega) ?_) | (refine wl_storeA hS69 rfl rfl sz_38 rfl (by first | rfl | (simp [allOne, Value.oneCell']; done) | assumption | exact hone) (i := 4) rfl (by first | decide | exact Nat.le_of_ble_eq_true rfl | (simp; done) | omega) ?_)
      intro w71 hS72; dsimp only [List.set] at hS72
      clear hS69
      refine wl_assign rfl rfl ?_
      refine wl_nil ?_
      refine qs_seq ?_
      refine wc_ret ?_
      refine qs_then_ret ?_
      refine finR2 (.inr rfl) rfl (resCA rfl ag_38 sz_38 (by first | exact hS72.blk 1 rfl | exact hS72.blk 4 rfl) (by first | decide | exact Nat.le_of_ble_eq_true rfl | (simp; done) | omega) rfl) (resT rfl) ?_
      have hd : decP s = none := by rw [hdq, if_neg]; rw [hdn]; intro q; cases q.1
      refine ⟨_, rfl, (.slice none 0 0), (.slice none 0 0), ?_, ?_⟩
      · rw [hd]; simp only [Option.getD_none, Option.isSome_none, procV_eq]; rfl
      · rw [hd]; simp only [Option.getD_none]; exact (((hS72.pick [5] rfl).row_nil stC).row_nil arC)
    have hdn : doneQ s k m = true := by unfold doneQ; exact not_f (by assumption)
    refine wl_guard rfl rfl h70 ?_
    refine wl_loadA rfl ag_38 sz_38 (by first | exact hS69.blk 1 rfl | exact hS69.blk 4 rfl) (by first | decide | exact Nat.le_of_ble_eq_true rfl | (simp; done) | omega) rfl rfl ?_
    refine wl_guard rfl rfl h70 ?_
    have hC73 := hS69.split [] [false, false, false, false, false, false] rfl; dsimp only [selF, pickA, nthA, List.cons_append, List.nil_append] at hC73
    refine wl_call cal_28 rfl (qBytes_sp hC73 hwq (Ent.starL (ent_row (by have := hwq.al; omega)) 2 rfl) (Ent.starL (ent_row (by have := hwq.fdl; omega)) 3 rfl) (wfr_big hwq)) rfl ?_
    rintro e w73 ⟨_, rfl, rfl, hS73⟩; refine ⟨_, rfl, ?_⟩
    replace hS73 := hS73.join rfl; dsimp only [List.dropLast, List.cons_append, List.nil_append] at hS73; clear hC73
    clear hS69
    refine wl_guard rfl rfl h70 ?_
    refine wl_move rfl rfl ?_
    refine wl_guard rfl rfl h70 ?_
    refine wl_neqS rfl rfl rfl ?_
    refine wl_pickF rfl h70 rfl rfl ?_
    refine wl_nil ?_
    refine qs_seq ?_
    refine wc_sub (L' := [(136, _), (2, _), (5, _)]) (.cons rfl (.cons rfl (.cons rfl .nil))) ?_
    refine wc_condD rfl (fun h74 => ?_) (fun h74 => ?_)
    · skip
      refine wc_seq ?_
      refine wc_region ?_
      refine wl_buildS rfl pl_38_ asz_38 zr_38 rfl rfl ?_
      first | (refine wl_storeA hS73 rfl rfl sz_38 rfl (by first | rfl | (simp [allOne, Value.oneCell']; done) | assumption | exact hone) (i := 1) rfl (by first | decide | exact Nat.le_of_ble_eq_true rfl | (simp; done) | omega) ?_) | (refine wl_storeA hS73 rfl rfl sz_38 rfl (by first | rfl | (simp [allOne, Value.oneCell']; done) | assumption | exact hone) (i := 4) rfl (by first | decide | exact Nat.le_of_ble_eq_true rfl | (simp; done) | omega) ?_)
      intro w75 hS76; dsimp only [List.set] at hS76
      clear hS73
      refine wl_assign rfl rfl ?_
      refine wl_nil ?_
      refine qs_seq ?_
      refine wc_ret ?_
      refine qs_then_ret ?_
      refine finR2 (.inr rfl) rfl (resCA rfl ag_38 sz_38 (by first | exact hS76.blk 1 rfl | exact hS76.blk 4 rfl) (by first | decide | exact Nat.le_of_ble_eq_true rfl | (simp; done) | omega) rfl) (resT rfl) ?_
      have hd : decP s = none := by rw [hdq, if_neg]; intro q; exact absurd q.2 (by assumption)
      refine ⟨_, rfl, (.slice none 0 0), (.slice none 0 0), ?_, ?_⟩
      · rw [hd]; simp only [Option.getD_none, Option.isSome_none, procV_eq]; rfl
      · rw [hd]; simp only [Option.getD_none]; exact (((hS76.pick [5] rfl).row_nil stC).row_nil arC)
    refine wc_skip ?_
    refine qs_seq ?_
    refine wc_seq ?_
    have hone := procV_one (x := recQ s k m) (hS73.own_one 2 rfl) (hS73.own_one 3 rfl)
    refine wc_region ?_
    refine wl_loadA rfl ag_38 sz_38 (by first | exact hS73.blk 1 rfl | exact hS73.blk 4 rfl) (by first | decide | exact Nat.le_of_ble_eq_true rfl | (simp; done) | omega) rfl rfl ?_
    refine wl_storeA hS73 rfl rfl sz_38 rfl (by first | rfl | (simp [allOne, Value.oneCell']; done) | assumption) (i := 4) rfl (by first | decide | exact Nat.le_of_ble_eq_true rfl | (simp; done) | omega) ?_
    intro w77 hS77; dsimp only [List.set] at hS77
    clear hS73
    rw [splice_all _ _ (by rfl)] at hS77
    refine wl_assign rfl rfl ?_
    refine wl_nil ?_
    refine qs_seq ?_
    refine wc_ret ?_
    refine finR2 (.inr rfl) rfl (resCA rfl ag_38 sz_38 (by first | exact hS77.blk 1 rfl | exact hS77.blk 4 rfl) (by first | decide | exact Nat.le_of_ble_eq_true rfl | (simp; done) | omega) rfl) (resT rfl) ?_
    have hd : decP s = some (recQ s k m) := by rw [hdq, if_pos ⟨hdn, Decidable.not_not.1 (by assumption)⟩]
    refine ⟨_, rfl, av, fv, ?_, ?_⟩
    · rw [hd]; rfl
    · rw [hd]; exact hS77.pick [2, 3, 5] rfl
  refine wl_unwanted rfl rfl (decide_eq_false h23) rfl ?_
  refine wl_unwanted rfl rfl (decide_eq_false h23) rfl ?_
  refine wl_unwanted rfl rfl (decide_eq_false h23) rfl ?_
  refine wl_pickF rfl (decide_eq_false h23) rfl rfl ?_
  refine wl_nil ?_
  refine qs_seq ?_
  refine wc_sub (L' := [(57, _), (0, _), (2, _), (4, _), (5, _), (7, _), (8, _)]) (.cons rfl (.cons rfl (.cons rfl (.cons rfl (.cons rfl (.cons rfl (.cons rfl .nil))))))) ?_
  refine wc_condF rfl ?_
  refine wc_exit ?_
  refine qs_then_exit ?_
  refine qs_then_exit ?_
  refine qs_block_exit ?_
  refine qs_seq ?_
  refine wc_seq ?_
  have hAE : ArEnd (nOf s) (r2 s) k := ⟨hk, hgd, by by_cases q : (k : Int) = nOf s; exact .inl q; exact .inr (by have h7 : ¬ (k : Int) < nOf s ∨ ¬ (0 : Int) < ((arSt k (r2 s)).1.length : Int) := (by first | (left; omega) | (right; assumption)); rcases h7 with h7 | h7; omega; exact List.length_eq_zero_iff.1 (by omega))⟩
  have hok3 : OkR (r3 s k) := okR_ars (z := r2 s) ((okR_ints (fun q => by cases q) 19).num 59 0) k
  rw [show (arSt k (r2 s)) = r3 s k from rfl] at hS22
  have hl3 : (r3 s k).1.length ≤ s.length := Nat.le_trans hyl hr2
  refine wc_region ?_
  refine wl_move rfl rfl ?_
  have hC78 := hS22.split [0] [true, false, false, false, false] rfl; dsimp only [selF, pickA, nthA, List.cons_append, List.nil_append] at hC78
  refine wl_call cal_94 rfl (r1RTexts_sp hC78 hok3 (by omega)) rfl ?_
  rintro e w78 ⟨_, rfl, m, hm, hS78⟩; refine ⟨_, rfl, ?_⟩
  replace hS78 := hS78.join rfl; dsimp only [List.dropLast, List.cons_append, List.nil_append] at hS78; clear hC78
  clear hS22
  have hE : Ends s k m := ⟨hAE, hm⟩
  rw [show cutV 93 (txSt m (numR 91 0 (r3 s k))) = r5 s k m from rfl] at hS78
  have hl4 : (r5 s k m).1.length ≤ s.length := by have h1 := txSt_len m (r4 s k); have h2 : (r4 s k).1.length ≤ (r3 s k).1.length := numR_len _ _ _; have h3 : (r5 s k m).1.length ≤ (txSt m (r4 s k)).1.length := cut_len _ _; omega
  have hok5 : OkR (r5 s k m) := okR_cut (okR_txs (hok3.num 91 0) m) 93
  refine wl_fieldAddr rfl fo_38_12 rfl ?_
  refine wl_store hS78 rfl rfl sz_31 (by first | rfl | assumption | exact hS78.own_one 0 rfl | exact hS78.own_one 3 rfl) (i := 2) rfl (by rw [pF_len]; omega) ?_
  intro w79 hS79; dsimp only [List.set] at hS79
  clear hS78
  rw [pF_fv] at hS79
  refine wl_nil ?_
  refine qs_seq ?_
  refine wc_seq ?_
  refine wc_region ?_
  refine wl_move rfl rfl ?_
  have hC80 := hS79.split [1] [false, true, false, false, false, false] rfl; dsimp only [selF, pickA, nthA, List.cons_append, List.nil_append] at hC80
  refine wl_call cal_93 rfl (r1RText_sp hC80 hok5 (by omega)) rfl ?_
  rintro e w80 ⟨_, rfl, rfl, hS80⟩; refine ⟨_, rfl, ?_⟩
  replace hS80 := hS80.join rfl; dsimp only [List.dropLast, List.cons_append, List.nil_append] at hS80; clear hC80
  clear hS79
  rw [show txtR (r5 s k m) = (r6 s k m) from rfl] at hS80
  have hok6 : OkR (r6 s k m) := hok5.txt
  have hl6 : (r6 s k m).1.length ≤ s.length := Nat.le_trans (txtR_len _) hl4
  have hz6 : intsR 0 (r6 s k m) = (r6 s k m) := intsR_zero _
  have hv6 : intsV 0 (r6 s k m) = [] := intsV_zero _
  refine wl_fieldAddr rfl fo_38_13 rfl ?_
  refine wl_store hS80 rfl rfl sz_9 (by first | rfl | assumption | exact hS80.own_one 1 rfl | exact hS80.own_one 3 rfl) (i := 2) rfl (by rw [pF_len]; omega) ?_
  intro w81 hS81; dsimp only [List.set] at hS81
  clear hS80
  rw [pF_c] at hS81
  refine wl_nil ?_
  refine qs_seq ?_
  refine wc_sub (L' := [(0, _), (2, _), (4, _), (5, _)]) (.cons rfl (.cons rfl (.cons rfl (.cons rfl .nil)))) ?_
  refine wc_seq ?_
  rw [show readT rb (r6 s k m) = readT rb (intsR 0 (r6 s k m)) by rw [hz6]] at hS81
  rw [show pF (intsV 19 (s, false)) [] av _ (txtV (r5 s k m)) [] = pF (intsV 19 (s, false)) (intsV 0 (r6 s k m)) av _ (txtV (r5 s k m)) [] by rw [hv6]] at hS81
  refine wc_region ?_
  refine wl_move rfl rfl ?_
  have hC82 := hS81.split [0] [true, false, false, false, false, false] rfl; dsimp only [selF, pickA, nthA, List.cons_append, List.nil_append] at hC82
  refine wl_call cal_90 rfl (r1RInt_sp hC82 (Nat.le_trans (intsR_len 0 (r6 s k m)) (by omega))) rfl ?_
  rintro e w82 ⟨_, rfl, rfl, hS82⟩; refine ⟨_, rfl, ?_⟩
  replace hS82 := hS82.join rfl; dsimp only [List.dropLast, List.cons_append, List.nil_append] at hS82; clear hC82
  clear hS81
  rw [iV_eq]
  rw [iR_eq] at hS82
  rw [show iR (intsR 0 (r6 s k m)) = intsR 1 (r6 s k m) from (intsR_succ _ _).symm] at hS82
  refine wl_fieldAddr rfl fo_38_14 rfl ?_
  refine wl_store hS82 rfl rfl sz_3 (by first | rfl | assumption | exact hS82.own_one 1 rfl | exact hS82.own_one 3 rfl) (i := 2) rfl (by rw [pF_len]; omega) ?_
  intro w83 hS83; dsimp only [List.set] at hS83
  clear hS82
  rw [tStep (a := 0) (by omega) (by omega) (by omega)] at hS83
  refine wl_nil ?_
  refine qs_seq ?_
  refine wc_seq ?_
  refine wc_region ?_
  refine wl_move rfl rfl ?_
  have hC84 := hS83.split [0] [true, false, false, false, false, false] rfl; dsimp only [selF, pickA, nthA, List.cons_append, List.nil_append] at hC84
  refine wl_call cal_90 rfl (r1RInt_sp hC84 (Nat.le_trans (intsR_len 1 (r6 s k m)) (by omega))) rfl ?_
  rintro e w84 ⟨_, rfl, rfl, hS84⟩; refine ⟨_, rfl, ?_⟩
  replace hS84 := hS84.join rfl; dsimp only [List.dropLast, List.cons_append, List.nil_append] at hS84; clear hC84
  clear hS83
  rw [iV_eq]
  rw [iR_eq] at hS84
  rw [show iR (intsR 1 (r6 s k m)) = intsR 2 (r6 s k m) from (intsR_succ _ _).symm] at hS84
  refine wl_fieldAddr rfl fo_38_15 rfl ?_
  refine wl_store hS84 rfl rfl sz_3 (by first | rfl | assumption | exact hS84.own_one 1 rfl | exact hS84.own_one 3 rfl) (i := 2) rfl (by rw [pF_len]; omega) ?_
  intro w85 hS85; dsimp only [List.set] at hS85
  clear hS84
  rw [tStep (a := 1) (by omega) (by omega) (by omega)] at hS85
  refine wl_nil ?_
  refine qs_seq ?_
  refine wc_seq ?_
  refine wc_seq ?_
  refine wc_region ?_
  refine wl_assign rfl rfl ?_
  refine wl_nil ?_
  refine qs_seq ?_
  refine wc_sub (L' := [(10, _), (0, _), (2, _), (4, _), (5, _)]) (.cons rfl (.cons rfl (.cons rfl (.cons rfl (.cons rfl .nil))))) ?_
  refine wc_block ?_
  refine wc_loop (fun K0 E0 W0 => ∃ (i : Nat) (fv : Value), K0 = 16 - i ∧ E0 = [(0, strV s), (2, ptrV br 0), (4, ptrV rb 0), (5, ptrV bp 0), (10, intV (i : Int))] ∧ Sat W0 [readT rb (intsR (2 + 2 * i) (r6 s k m)), blkT bp (pF (intsV 19 (s, false)) (intsV (2 + 2 * i) (r6 s k m)) av fv (txtV (r5 s k m)) []), rowT arC av (arsV k (r2 s)), rowT stC fv (txOut m (r3 s k)), blkT br (pF [] [] (.slice none 0 0) (.slice none 0 0) [] []), F] ∧ (i ≤ 16)) (L0 := [(0, _), (2, _), (4, _), (5, _), (10, _)]) (16 - 0) (.cons rfl (.cons rfl (.cons rfl (.cons rfl (.cons rfl .nil))))) ⟨0, _, rfl, rfl, hS85.pick [0, 2, 3, 1, 4, 5] rfl, by omega⟩ ?_
  rintro _ _ w86 ⟨i, fv, rfl, rfl, hS86, hi⟩
  refine wc_seq ?_
  refine wc_seq ?_
  refine wc_region ?_
  refine wl_move rfl rfl ?_
  refine wl_lss rfl rfl rfl ?_
  refine wl_nil ?_
  refine qs_seq ?_
  refine wc_condD rfl (fun h87 => ?_) (fun h87 => ?_)
  · skip
    refine wc_skip ?_
    refine qs_seq ?_
    refine wc_seq ?_
    refine wc_block ?_
    refine wc_seq ?_
    refine wc_region ?_
    refine wl_move rfl rfl ?_
    refine wl_move rfl rfl ?_
    have hC88 := hS86.split [0] [true, false, false, false, false, false] rfl; dsimp only [selF, pickA, nthA, List.cons_append, List.nil_append] at hC88
    refine wl_call cal_90 rfl (r1RInt_sp hC88 (Nat.le_trans (intsR_len (2 + 2 * i) (r6 s k m)) (by omega))) rfl ?_
    rintro e w88 ⟨_, rfl, rfl, hS88⟩; refine ⟨_, rfl, ?_⟩
    replace hS88 := hS88.join rfl; dsimp only [List.dropLast, List.cons_append, List.nil_append] at hS88; clear hC88
    clear hS86
    rw [iV_eq]
    rw [iR_eq] at hS88
    rw [show iR (intsR (2 + 2 * i) (r6 s k m)) = intsR ((2 + 2 * i) + 1) (r6 s k m) from (intsR_succ _ _).symm] at hS88
    refine wl_fieldAddr rfl fo_38_16 rfl ?_
    refine wl_indexAddrA _ Tryz.underlying34 rfl rfl (by first | rfl | omega) (by first | omega | (simp; omega)) sz_33 rfl ?_
    refine wl_fieldAddr rfl fo_33_0 rfl ?_
    refine wl_store hS88 rfl rfl sz_3 (by first | rfl | assumption | exact hS88.own_one 2 rfl | exact hS88.own_one 3 rfl) (i := 1) rfl (by rw [pF_len]; omega) ?_
    intro w89 hS89; dsimp only [List.set] at hS89
    clear hS88
    rw [tStep (a := 2 + 2 * i) (by omega) (by omega) (by omega)] at hS89
    refine wl_nil ?_
    refine qs_seq ?_
    refine wc_sub (L' := [(0, _), (2, _), (4, _), (5, _), (10, _)]) (.cons rfl (.cons rfl (.cons rfl (.cons rfl (.cons rfl .nil))))) ?_
    rw [show 2 + 2 * i + 1 = 3 + 2 * i by omega] at hS89
    refine wc_region ?_
    refine wl_move rfl rfl ?_
    refine wl_move rfl rfl ?_
    have hC90 := hS89.split [0] [true, false, false, false, false, false] rfl; dsimp only [selF, pickA, nthA, List.cons_append, List.nil_append] at hC90
    refine wl_call cal_90 rfl (r1RInt_sp hC90 (Nat.le_trans (intsR_len (3 + 2 * i) (r6 s k m)) (by omega))) rfl ?_
    rintro e w90 ⟨_, rfl, rfl, hS90⟩; refine ⟨_, rfl, ?_⟩
    replace hS90 := hS90.join rfl; dsimp only [List.dropLast, List.cons_append, List.nil_append] at hS90; clear hC90
    clear hS89
    rw [iV_eq]
    rw [iR_eq] at hS90
    rw [show iR (intsR (3 + 2 * i) (r6 s k m)) = intsR ((3 + 2 * i) + 1) (r6 s k m) from (intsR_succ _ _).symm] at hS90
    refine wl_eql rfl rfl rfl ?_
    refine wl_fieldAddr rfl fo_38_16 rfl ?_
    refine wl_indexAddrA _ Tryz.underlying34 rfl rfl (by first | rfl | omega) (by first | omega | (simp; omega)) sz_33 rfl ?_
    refine wl_fieldAddr rfl fo_33_1 rfl ?_
    refine wl_store hS90 rfl rfl sz_4 (by first | rfl | assumption | exact hS90.own_one 2 rfl | exact hS90.own_one 3 rfl) (i := 1) rfl (by rw [pF_len]; omega) ?_
    intro w91 hS91; dsimp only [List.set] at hS91
    clear hS90
    rw [flgT (i := i) (a := 3 + 2 * i) rfl (by omega) (by omega)] at hS91
    refine wl_nil ?_
    refine qs_block_normal ?_
    refine qs_seq ?_
    refine wc_sub (L' := [(0, _), (2, _), (4, _), (5, _), (10, _)]) (.cons rfl (.cons rfl (.cons rfl (.cons rfl (.cons rfl .nil))))) ?_
    refine wc_region ?_
    refine wl_move rfl rfl ?_
    refine wl_add rfl rfl (by first | omega | (simp; omega)) (by first | omega | (simp; omega)) rfl ?_
    refine wl_assign rfl rfl ?_
    refine wl_nil ?_
    exact qs_round (L1 := [(0, _), (2, _), (4, _), (5, _), (10, intV ((i + 1 : Nat) : Int))]) (.cons rfl (.cons rfl (.cons rfl (.cons rfl (.cons rfl .nil))))) (k1 := 16 - (i + 1)) (by omega) ⟨i + 1, _, rfl, rfl, (by rw [show 2 + 2 * (i + 1) = 3 + 2 * i + 1 by omega]; exact hS91.pick [0, 1, 2, 3, 4, 5] rfl), by omega⟩
  refine wc_exit ?_
  refine qs_then_exit ?_
  refine qs_then_exit ?_
  refine qs_block_exit ?_
  refine qs_seq ?_
  refine wc_seq ?_
  have hi16 : 2 + 2 * i = 34 := by omega
  rw [hi16] at hS86
  refine wc_region ?_
  refine wl_move rfl rfl ?_
  have hC92 := hS86.split [0] [true, false, false, false, false, false] rfl; dsimp only [selF, pickA, nthA, List.cons_append, List.nil_append] at hC92
  refine wl_call cal_90 rfl (r1RInt_sp hC92 (Nat.le_trans (intsR_len 34 (r6 s k m)) (by omega))) rfl ?_
  rintro e w92 ⟨_, rfl, rfl, hS92⟩; refine ⟨_, rfl, ?_⟩
  replace hS92 := hS92.join rfl; dsimp only [List.dropLast, List.cons_append, List.nil_append] at hS92; clear hC92
  clear hS86
  rw [iV_eq]
  rw [iR_eq] at hS92
  rw [show iR (intsR 34 (r6 s k m)) = intsR 35 (r6 s k m) from (intsR_succ _ _).symm] at hS92
  refine wl_move rfl rfl ?_
  have hC93 := hS92.split [0] [true, false, false, false, false, false] rfl; dsimp only [selF, pickA, nthA, List.cons_append, List.nil_append] at hC93
  refine wl_call cal_90 rfl (r1RInt_sp hC93 (Nat.le_trans (intsR_len 35 (r6 s k m)) (by omega))) rfl ?_
  rintro e w93 ⟨_, rfl, rfl, hS93⟩; refine ⟨_, rfl, ?_⟩
  replace hS93 := hS93.join rfl; dsimp only [List.dropLast, List.cons_append, List.nil_append] at hS93; clear hC93
  clear hS92
  rw [iV_eq]
  rw [iR_eq] at hS93
  rw [show iR (intsR 35 (r6 s k m)) = intsR 36 (r6 s k m) from (intsR_succ _ _).symm] at hS93
  refine wl_move rfl rfl ?_
  have hC94 := hS93.split [0] [true, false, false, false, false, false] rfl; dsimp only [selF, pickA, nthA, List.cons_append, List.nil_append] at hC94
  refine wl_call cal_90 rfl (r1RInt_sp hC94 (Nat.le_trans (intsR_len 36 (r6 s k m)) (by omega))) rfl ?_
  rintro e w94 ⟨_, rfl, rfl, hS94⟩; refine ⟨_, rfl, ?_⟩
  replace hS94 := hS94.join rfl; dsimp only [List.dropLast, List.cons_append, List.nil_append] at hS94; clear hC94
  clear hS93
  rw [iV_eq]
  rw [iR_eq] at hS94
  rw [show iR (intsR 36 (r6 s k m)) = intsR 37 (r6 s k m) from (intsR_succ _ _).symm] at hS94
  refine wl_buildS rfl pl_36_0_1_2 asz_36 zr_36 rfl rfl ?_
  refine wl_fieldAddr rfl fo_38_17 rfl ?_
  refine wl_storeA hS94 rfl rfl sz_36 rfl rfl (i := 1) rfl (by rw [pF_len]; decide) ?_
  intro w95 hS95; dsimp only [List.set] at hS95
  clear hS94
  replace hS95 := blk_cast hS95 1 (cs' := (pF (intsV 19 (s, false)) (intsV 37 (r6 s k m)) av fv (txtV (r5 s k m)) [])) rfl waitStep; dsimp only [List.set] at hS95
  refine wl_nil ?_
  refine qs_seq ?_
  refine wc_sub (L' := [(0, _), (2, _), (4, _), (5, _)]) (.cons rfl (.cons rfl (.cons rfl (.cons rfl .nil)))) ?_
  refine wc_seq ?_
  refine wc_region ?_
  refine wl_move rfl rfl ?_
  have hC96 := hS95.split [0] [true, false, false, false, false, false] rfl; dsimp only [selF, pickA, nthA, List.cons_append, List.nil_append] at hC96
  refine wl_call cal_90 rfl (r1RInt_sp hC96 (Nat.le_trans (intsR_len 37 (r6 s k m)) (by omega))) rfl ?_
  rintro e w96 ⟨_, rfl, rfl, hS96⟩; refine ⟨_, rfl, ?_⟩
  replace hS96 := hS96.join rfl; dsimp only [List.dropLast, List.cons_append, List.nil_append] at hS96; clear hC96
  clear hS95
  rw [iV_eq]
  rw [iR_eq] at hS96
  rw [show iR (intsR 37 (r6 s k m)) = intsR 38 (r6 s k m) from (intsR_succ _ _).symm] at hS96
  refine wl_fieldAddr rfl fo_38_18 rfl ?_
  refine wl_store hS96 rfl rfl sz_3 (by first | rfl | assumption | exact hS96.own_one 2 rfl | exact hS96.own_one 3 rfl) (i := 1) rfl (by rw [pF_len]; omega) ?_
  intro w97 hS97; dsimp only [List.set] at hS97
  clear hS96
  rw [tStep (a := 37) (by omega) (by omega) (by omega)] at hS97
  refine wl_nil ?_
  refine qs_seq ?_
  refine wc_seq ?_
  rw [show intsR 38 (r6 s k m) = r7 s k m from rfl] at hS97
  refine wc_region ?_
  refine wl_move rfl rfl ?_
  have hC98 := hS97.split [0] [true, false, false, false, false, false] rfl; dsimp only [selF, pickA, nthA, List.cons_append, List.nil_append] at hC98
  refine wl_call cal_93 rfl (r1RText_sp hC98 (okR_ints hok6 38) (Nat.le_trans (intsR_len 38 (r6 s k m)) (by omega))) rfl ?_
  rintro e w98 ⟨_, rfl, rfl, hS98⟩; refine ⟨_, rfl, ?_⟩
  replace hS98 := hS98.join rfl; dsimp only [List.dropLast, List.cons_append, List.nil_append] at hS98; clear hC98
  clear hS97
  rw [show txtR (r7 s k m) = r8 s k m from rfl] at hS98
  refine wl_fieldAddr rfl fo_38_19 rfl ?_
  refine wl_store hS98 rfl rfl sz_9 (by first | rfl | assumption | exact hS98.own_one 2 rfl | exact hS98.own_one 3 rfl) (i := 1) rfl (by rw [pF_len]; omega) ?_
  intro w99 hS99; dsimp only [List.set] at hS99
  clear hS98
  rw [pF_s] at hS99
  refine wl_nil ?_
  refine qs_seq ?_
  refine wc_seq ?_
  refine wc_seq ?_
  have hpx : pF (intsV 19 (s, false)) (intsV 38 (r6 s k m)) av fv (txtV (r5 s k m)) (txtV (r7 s k m)) = procV (recQ s k m) av fv := by rw [procV_eq]; exact (pF_norm _ _ _ _ _ _).symm
  rw [hpx] at hS99
  have hwq := recQ_wf hE hs
  have hdq := dec_q hE hs
  refine wc_region ?_
  refine wl_move rfl rfl ?_
  have hC100 := hS99.split [0] [true, false, false, false, false, false] rfl; dsimp only [selF, pickA, nthA, List.cons_append, List.nil_append] at hC100
  refine wl_call cal_95 rfl (r1Done_sp hC100) rfl ?_
  rintro e w100 ⟨_, rfl, rfl, hS100⟩; refine ⟨_, rfl, ?_⟩
  replace hS100 := hS100.join rfl; dsimp only [List.dropLast, List.cons_append, List.nil_append] at hS100; clear hC100
  clear hS99
  refine wl_not rfl rfl ?_
  refine wl_move rfl rfl ?_
  refine wl_split 131 rfl (fun h101 => ?_) (fun h101 => ?_)
  · skip
    have hdn : doneQ s k m = false := by unfold doneQ; exact not_t (by assumption)
    refine wl_unwanted rfl rfl h101 rfl ?_
    refine wl_unwanted rfl rfl h101 rfl ?_
    refine wl_unwanted rfl rfl h101 rfl ?_
    refine wl_unwanted rfl rfl h101 rfl ?_
    refine wl_pickT rfl h101 rfl rfl ?_
    refine wl_nil ?_
    refine qs_seq ?_
    refine wc_sub (L' := [(136, _), (2, _), (5, _)]) (.cons rfl (.cons rfl (.cons rfl .nil))) ?_
    refine wc_condT rfl ?_
    refine wc_seq ?_
    refine wc_region ?_
    refine wl_buildS rfl pl_38_ asz_38 zr_38 rfl rfl ?_
    first | (refine wl_storeA hS100 rfl rfl sz_38 rfl (by first | rfl | (simp [allOne, Value.oneCell']; done) | assumption | exact hone) (i := 1) rfl (by first | decide | exact Nat.le_of_ble_eq_true rfl | (simp; done) | omega) ?_) | (refine wl_storeA hS100 rfl rfl sz_38 rfl (by first | rfl | (simp [allOne, Value.oneCell']; done) | assumption | exact hone) (i := 4) rfl (by first | decide | exact Nat.le_of_ble_eq_true rfl | (simp; done) | omega) ?_)
    intro w102 hS103; dsimp only [List.set] at hS103
    clear hS100
    refine wl_assign rfl rfl ?_
    refine wl_nil ?_
    refine qs_seq ?_
    refine wc_ret ?_
    refine qs_then_ret ?_
    refine finR2 (.inr rfl) rfl (resCA rfl ag_38 sz_38 (by first | exact hS103.blk 1 rfl | exact hS103.blk 4 rfl) (by first | decide | exact Nat.le_of_ble_eq_true rfl | (simp; done) | omega) rfl) (resT rfl) ?_
    have hd : decP s = none := by rw [hdq, if_neg]; rw [hdn]; intro q; cases q.1
    refine ⟨_, rfl, (.slice none 0 0), (.slice none 0 0), ?_, ?_⟩
    · rw [hd]; simp only [Option.getD_none, Option.isSome_none, procV_eq]; rfl
    · rw [hd]; simp only [Option.getD_none]; exact (((hS103.pick [5] rfl).row_nil stC).row_nil arC)
  have hdn : doneQ s k m = true := by unfold doneQ; exact not_f (by assumption)
  refine wl_guard rfl rfl h101 ?_
  refine wl_loadA rfl ag_38 sz_38 (by first | exact hS100.blk 1 rfl | exact hS100.blk 4 rfl) (by first | decide | exact Nat.le_of_ble_eq_true rfl | (simp; done) | omega) rfl rfl ?_
  refine wl_guard rfl rfl h101 ?_
  have hC104 := hS100.split [] [false, false, false, false, false, false] rfl; dsimp only [selF, pickA, nthA, List.cons_append, List.nil_append] at hC104
  refine wl_call cal_28 rfl (qBytes_sp hC104 hwq (Ent.starL (ent_row (by have := hwq.al; omega)) 2 rfl) (Ent.starL (ent_row (by have := hwq.fdl; omega)) 3 rfl) (wfr_big hwq)) rfl ?_
  rintro e w104 ⟨_, rfl, rfl, hS104⟩; refine ⟨_, rfl, ?_⟩
  replace hS104 := hS104.join rfl; dsimp only [List.dropLast, List.cons_append, List.nil_append] at hS104; clear hC104
  clear hS100
  refine wl_guard rfl rfl h101 ?_
  refine wl_move rfl rfl ?_
  refine wl_guard rfl rfl h101 ?_
  refine wl_neqS rfl rfl rfl ?_
  refine wl_pickF rfl h101 rfl rfl ?_
  refine wl_nil ?_
  refine qs_seq ?_
  refine wc_sub (L' := [(136, _), (2, _), (5, _)]) (.cons rfl (.cons rfl (.cons rfl .nil))) ?_
  refine wc_condD rfl (fun h105 => ?_) (fun h105 => ?_)
  · skip
    refine wc_seq ?_
    refine wc_region ?_
    refine wl_buildS rfl pl_38_ asz_38 zr_38 rfl rfl ?_
    first | (refine wl_storeA hS104 rfl rfl sz_38 rfl (by first | rfl | (simp [allOne, Value.oneCell']; done) | assumption | exact hone) (i := 1) rfl (by first | decide | exact Nat.le_of_ble_eq_true rfl | (simp; done) | omega) ?_) | (refine wl_storeA hS104 rfl rfl sz_38 rfl (by first | rfl | (simp [allOne, Value.oneCell']; done) | assumption | exact hone) (i := 4) rfl (by first | decide | exact Nat.le_of_ble_eq_true rfl | (simp; done) | omega) ?_)
    intro w106 hS107; dsimp only [List.set] at hS107
    clear hS104
    refine wl_assign rfl rfl ?_
    refine wl_nil ?_
    refine qs_seq ?_
    refine wc_ret ?_
    refine qs_then_ret ?_
    refine finR2 (.inr rfl) rfl (resCA rfl ag_38 sz_38 (by first | exact hS107.blk 1 rfl | exact hS107.blk 4 rfl) (by first | decide | exact Nat.le_of_ble_eq_true rfl | (simp; done) | omega) rfl) (resT rfl) ?_
    have hd : decP s = none := by rw [hdq, if_neg]; intro q; exact absurd q.2 (by assumption)
    refine ⟨_, rfl, (.slice none 0 0), (.slice none 0 0), ?_, ?_⟩
    · rw [hd]; simp only [Option.getD_none, Option.isSome_none, procV_eq]; rfl
    · rw [hd]; simp only [Option.getD_none]; exact (((hS107.pick [5] rfl).row_nil stC).row_nil arC)
  refine wc_skip ?_
  refine qs_seq ?_
  refine wc_seq ?_
  have hone := procV_one (x := recQ s k m) (hS104.own_one 2 rfl) (hS104.own_one 3 rfl)
  refine wc_region ?_
  refine wl_loadA rfl ag_38 sz_38 (by first | exact hS104.blk 1 rfl | exact hS104.blk 4 rfl) (by first | decide | exact Nat.le_of_ble_eq_true rfl | (simp; done) | omega) rfl rfl ?_
  refine wl_storeA hS104 rfl rfl sz_38 rfl (by first | rfl | (simp [allOne, Value.oneCell']; done) | assumption) (i := 4) rfl (by first | decide | exact Nat.le_of_ble_eq_true rfl | (simp; done) | omega) ?_
  intro w108 hS108; dsimp only [List.set] at hS108
  clear hS104
  rw [splice_all _ _ (by rfl)] at hS108
  refine wl_assign rfl rfl ?_
  refine wl_nil ?_
  refine qs_seq ?_
  refine wc_ret ?_
  refine finR2 (.inr rfl) rfl (resCA rfl ag_38 sz_38 (by first | exact hS108.blk 1 rfl | exact hS108.blk 4 rfl) (by first | decide | exact Nat.le_of_ble_eq_true rfl | (simp; done) | omega) rfl) (resT rfl) ?_
  have hd : decP s = some (recQ s k m) := by rw [hdq, if_pos ⟨hdn, Decidable.not_not.1 (by assumption)⟩]
  refine ⟨_, rfl, av, fv, ?_, ?_⟩
  · rw [hd]; rfl
  · rw [hd]; exact hS108.pick [2, 3, 5] rfl
end Go.Proofs.YtcbdclhoekokpaaGreatDoor
