/- the reference of layer 3: Sync, Truncate, Arm; the reference with its keep -/
import Derived.Test.YtfmkodmmbgibgaaGreatDoorRe
import Derived.Test.YtfmkodmmbgibgaaGreatDoorDf
import Derived.Test.YtfmkodmmbgibgaaGreatDoorOp4
namespace Go.Proofs.YtfmkodmmbgibgaaGreatDoor
open Go.RowKit M
set_option linter.unusedVariables false
theorem comes_late {D : DS} : comesD D 0 0 [] = lateD D := by
  have e : writeD (endsD D) 0 0 [] = endsD D := by
    unfold writeD; split
    · rw [addD, if_pos rfl]
    · rfl
  rw [comesD, lateD, e]
set_option maxRecDepth 100000 in
theorem SyncR_sp {w : World} {p : Nat} {kp : Value} {D : DS} {F : Th} (hS : Sat w [refT p kp D, F]) (hK : Ent F (RdL inC kp D.keep)) (f : Int) :
    Calls Tryz.prog 23 #[ptrV p 0, intV f] w (Ret fun v w' => v = intV (SyncE D f) ∧ Sat w' [refT p kp (SyncD D f), F]) := by
 refine calls_enter Tryz.func23 rfl Tryz.ntmps23 rfl ?_
 refine wc_seq (wc_region (wl_assign rfl rfl (wl_nil (qs_seq (wc_seq (wc_region (wl_move rfl rfl ?_)))))))
 have hC1 := hS.split [0] [true, false] rfl; dsimp only [selF, pickA, nthA, List.cons_append, List.nil_append] at hC1
 refine wl_call cal_56 rfl (comesR_sp hC1 (hK.starL 0 rfl) 0 0 [] (by simp)) rfl ?_
 rintro e w1 ⟨_, rfl, rfl, hS1⟩; refine ⟨_, rfl, ?_⟩
 replace hS1 := hS1.join rfl; dsimp only [List.dropLast, List.cons_append, List.nil_append] at hS1; clear hC1
 rw [comes_late] at hS1
 refine wl_nil (qs_seq (wc_seq (wc_region (wl_move rfl rfl (wl_move rfl rfl ?_)))))
 have hC2 := hS1.split [0] [true, false] rfl; dsimp only [selF, pickA, nthA, List.cons_append, List.nil_append] at hC2
 refine wl_call cal_57 rfl (mayR_sp hC2 f) rfl ?_
 rintro e w2 ⟨_, rfl, rfl, hS2⟩; refine ⟨_, rfl, ?_⟩
 replace hS2 := hS2.join rfl; dsimp only [List.dropLast, List.cons_append, List.nil_append] at hS2; clear hC2
 clear hS1
 refine wl_assign rfl rfl (wl_nil (qs_seq (wc_seq (wc_seq (wc_region (wl_move rfl rfl ?_))))))
 refine wl_neq rfl rfl rfl ?_
 refine wl_nil (qs_seq ?_)
 refine wc_sub (L' := [(12, _), (5, _), (4, _), (0, _), (1, _)]) (.cons rfl (.cons rfl (.cons rfl (.cons rfl (.cons rfl .nil))))) ?_
 refine wc_condD rfl (fun h3 => ?_) (fun h3 => ?_)
 ·have hm : mayE (lateD D) f ≠ 0 := h3
  refine wc_seq (wc_region (wl_move rfl rfl (wl_assign rfl rfl (wl_nil (qs_seq (wc_ret (qs_then_ret ?_)))))))
  refine fin1 (.inr rfl) rfl rfl ?_
  exact ⟨_, rfl, by simp [SyncE, hm], by simp only [SyncD, if_pos hm]; exact hS2⟩
 have hm : mayE (lateD D) f = 0 := Decidable.not_not.1 h3
 refine wc_skip (qs_seq (wc_seq (wc_seq ?_)))
 obtain ⟨⟨fv, qv, l⟩, hI, hS2⟩ := refT_open (hS2.pull 0 rfl); dsimp only [List.eraseIdx] at hI hS2
 have hll := hI.inv.lost
 refine wc_region (wl_move rfl rfl (wl_nilCheck rfl rfl ?_))
 refine wl_fieldAddr rfl fo_92_2 rfl ?_
 refine wl_load rfl ag_3 (by first | assumption | exact hS2.cell 0 rfl rfl) rfl ?_
 refine wl_gtr rfl rfl rfl ?_
 refine wl_nil (qs_seq ?_)
 refine wc_condD rfl (fun h4 => ?_) (fun h4 => ?_)
 ·have hl : 0 < (lateD D).lost := h4
  refine wc_seq (wc_region (wl_move rfl rfl (wl_nilCheck rfl rfl ?_)))
  refine wl_fieldAddr rfl fo_92_2 rfl ?_
  refine wl_load rfl ag_3 (by first | assumption | exact hS2.cell 0 rfl rfl) rfl ?_
  refine wl_sub' rfl rfl (by omega) (by omega) rfl ?_
  refine wl_nilCheck rfl rfl ?_
  refine wl_fieldAddr rfl fo_92_2 rfl ?_
  first | (refine wl_store hS2 rfl rfl sz_3 (by first | rfl | assumption | exact hS2.own_one 1 rfl | exact hS2.own_one 2 rfl) (i := 0) rfl (by first | decide | exact Nat.le_of_ble_eq_true rfl | (simp; done) | omega) ?_)
  intro w5 hS6; dsimp only [List.set] at hS6
  clear hS2
  refine wl_nil (qs_seq ?_)
  refine wc_sub (L' := [(4, _), (0, _), (1, _)]) (.cons rfl (.cons rfl (.cons rfl .nil))) ?_
  refine wc_seq (wc_region (wl_assign rfl rfl (wl_nil (qs_seq (wc_ret (qs_then_ret ?_))))))
  refine fin1 (.inr rfl) rfl rfl ?_
  exact ⟨_, rfl, by rw [SyncE, if_neg (by simp [hm]), if_pos hl], by rw [SyncD, if_neg (by simp [hm]), if_pos hl]; exact refT_shut ⟨fv, qv, l⟩ (hI.upd rfl { hI.inv with lost := ⟨by simp; omega, by have := hI.inv.lost; simp; omega⟩ }) hS6⟩
 have hl : ¬ 0 < (lateD D).lost := h4
 refine wc_skip (qs_seq (wc_seq ?_))
 have hnow := hI.inv.now f
 have hS2' := refT_shut (D := lateD D) ⟨fv, qv, l⟩ (hI) hS2; replace hS2 := hS2'; clear hS2'
 refine wc_region (wl_move rfl rfl (wl_move rfl rfl (wl_move rfl rfl (wl_move rfl rfl ?_))))
 have hC7 := hS2.split [0] [true, false] rfl; dsimp only [selF, pickA, nthA, List.cons_append, List.nil_append] at hC7
 refine wl_call cal_63 rfl (getR_sp hC7 f) rfl ?_
 rintro e w7 ⟨_, rfl, rfl, hS7⟩; refine ⟨_, rfl, ?_⟩
 replace hS7 := hS7.join rfl; dsimp only [List.dropLast, List.cons_append, List.nil_append] at hS7; clear hC7
 clear hS2
 refine wl_field fv_97_1 rfl rfl rfl ?_
 have hC8 := hS7.split [0] [true, false] rfl; dsimp only [selF, pickA, nthA, List.cons_append, List.nil_append] at hC8
 refine wl_call cal_62 rfl (settleR_sp hC8 f (may_ok hm) _ hnow) rfl ?_
 rintro e w8 ⟨_, rfl, rfl, hS8⟩; refine ⟨_, rfl, ?_⟩
 replace hS8 := hS8.join rfl; dsimp only [List.dropLast, List.cons_append, List.nil_append] at hS8; clear hC8
 clear hS7
 refine wl_nil (qs_seq ?_)
 refine wc_sub (L' := [(4, _)]) (.cons rfl .nil) ?_
 refine wc_seq (wc_region (wl_assign rfl rfl (wl_nil (qs_seq (wc_ret ?_)))))
 refine fin1 (.inr rfl) rfl rfl ?_
 exact ⟨_, rfl, by rw [SyncE, if_neg (by simp [hm]), if_neg hl], by rw [SyncD, if_neg (by simp [hm]), if_neg hl]; exact hS8⟩
theorem truncR_may {w : World} {p : Nat} {kp : Value} {D : DS} {F : Th} {f size : Int} (hm : mayE (lateD D) f ≠ 0) (h : Sat w [refT p kp (lateD D), F]) : intV (mayE (lateD D) f) = intV (TruncE D f size) ∧ Sat w [refT p kp (TruncD D f size), F] := by
  have e : TruncE D f size = mayE (lateD D) f := by rw [TruncE, if_pos hm]
  exact ⟨by rw [e], by rw [TruncD, e, if_neg hm]; exact h⟩
theorem truncR_arg {w : World} {p : Nat} {kp : Value} {D : DS} {F : Th} {f size : Int} (hm : mayE (lateD D) f = 0) (hx : size < 0 ∨ (((lateD D).F f).1.length : Int) < size) (h : Sat w [refT p kp (lateD D), F]) : intV 1 = intV (TruncE D f size) ∧ Sat w [refT p kp (TruncD D f size), F] := by
  have e : TruncE D f size = 1 := by rw [TruncE, if_neg (by simp [hm]), if_pos hx]
  exact ⟨by rw [e], by rw [TruncD, e, if_neg (by decide)]; exact h⟩
theorem truncR_ok {w : World} {p : Nat} {kp : Value} {D : DS} {F : Th} {f : Int} {n : Nat} (hm : mayE (lateD D) f = 0) (hx : ¬ ((n : Int) < 0 ∨ (((lateD D).F f).1.length : Int) < n)) (h : Sat w [refT p kp (settleD (lateD D) f ((((lateD D).F f).1.take n).drop 0)), F]) : intV 0 = intV (TruncE D f n) ∧ Sat w [refT p kp (TruncD D f n), F] := by
  have e : TruncE D f n = 0 := by rw [TruncE, if_neg (by simp [hm]), if_neg hx]
  rw [List.drop_zero] at h
  exact ⟨by rw [e], by rw [TruncD, if_pos e]; simpa using h⟩
set_option maxRecDepth 100000 in
theorem TruncR_sp {w : World} {p : Nat} {kp : Value} {D : DS} {F : Th} (hS : Sat w [refT p kp D, F]) (hK : Ent F (RdL inC kp D.keep)) (f size : Int) :
    Calls Tryz.prog 74 #[ptrV p 0, intV f, intV size] w (Ret fun v w' => v = intV (TruncE D f size) ∧ Sat w' [refT p kp (TruncD D f size), F]) := by
 refine calls_enter Tryz.func74 rfl Tryz.ntmps74 rfl ?_
 refine wc_seq (wc_region (wl_assign rfl rfl (wl_nil (qs_seq (wc_seq (wc_region (wl_move rfl rfl ?_)))))))
 have hC1 := hS.split [0] [true, false] rfl; dsimp only [selF, pickA, nthA, List.cons_append, List.nil_append] at hC1
 refine wl_call cal_56 rfl (comesR_sp hC1 (hK.starL 0 rfl) 0 0 [] (by simp)) rfl ?_
 rintro e w1 ⟨_, rfl, rfl, hS1⟩; refine ⟨_, rfl, ?_⟩
 replace hS1 := hS1.join rfl; dsimp only [List.dropLast, List.cons_append, List.nil_append] at hS1; clear hC1
 rw [comes_late] at hS1
 refine wl_nil (qs_seq (wc_seq (wc_region (wl_move rfl rfl (wl_move rfl rfl ?_)))))
 have hC2 := hS1.split [0] [true, false] rfl; dsimp only [selF, pickA, nthA, List.cons_append, List.nil_append] at hC2
 refine wl_call cal_57 rfl (mayR_sp hC2 f) rfl ?_
 rintro e w2 ⟨_, rfl, rfl, hS2⟩; refine ⟨_, rfl, ?_⟩
 replace hS2 := hS2.join rfl; dsimp only [List.dropLast, List.cons_append, List.nil_append] at hS2; clear hC2
 clear hS1
 refine wl_assign rfl rfl (wl_nil (qs_seq (wc_seq (wc_seq (wc_region (wl_move rfl rfl ?_))))))
 refine wl_neq rfl rfl rfl ?_
 refine wl_nil (qs_seq ?_)
 refine wc_sub (L' := [(15, _), (7, _), (6, _), (0, _), (1, _), (2, _)]) (.cons rfl (.cons rfl (.cons rfl (.cons rfl (.cons rfl (.cons rfl .nil)))))) ?_
 refine wc_condD rfl (fun h3 => ?_) (fun h3 => ?_)
 ·have hm : mayE (lateD D) f ≠ 0 := h3
  refine wc_seq (wc_region (wl_move rfl rfl (wl_assign rfl rfl (wl_nil (qs_seq (wc_ret (qs_then_ret ?_)))))))
  refine fin1 (.inr rfl) rfl rfl ?_
  exact ⟨_, rfl, truncR_may hm hS2⟩
 have hm : mayE (lateD D) f = 0 := Decidable.not_not.1 h3
 refine wc_skip (qs_seq (wc_seq ?_))
 obtain ⟨_, hI0, _⟩ := refT_open hS2; have hnow := hI0.inv.now f; clear hI0
 refine wc_region (wl_move rfl rfl (wl_move rfl rfl ?_))
 have hC4 := hS2.split [0] [true, false] rfl; dsimp only [selF, pickA, nthA, List.cons_append, List.nil_append] at hC4
 refine wl_call cal_63 rfl (getR_sp hC4 f) rfl ?_
 rintro e w4 ⟨_, rfl, rfl, hS4⟩; refine ⟨_, rfl, ?_⟩
 replace hS4 := hS4.join rfl; dsimp only [List.dropLast, List.cons_append, List.nil_append] at hS4; clear hC4
 clear hS2
 refine wl_field fv_97_1 rfl rfl rfl ?_
 refine wl_assign rfl rfl (wl_nil (qs_seq ?_))
 refine wc_sub (L' := [(8, _), (6, _), (0, _), (1, _), (2, _)]) (.cons rfl (.cons rfl (.cons rfl (.cons rfl (.cons rfl .nil))))) ?_
 refine wc_seq (wc_seq (wc_region (wl_move rfl rfl ?_)))
 refine wl_lss rfl rfl rfl ?_
 refine wl_move rfl rfl ?_
 refine wl_splitD 23 rfl (fun h5 => ?_) (fun h5 => ?_)
 ·refine wl_unwanted rfl rfl (decide_eq_true h5) rfl ?_
  refine wl_unwanted rfl rfl (decide_eq_true h5) rfl ?_
  refine wl_unwanted rfl rfl (decide_eq_true h5) rfl ?_
  refine wl_unwanted rfl rfl (decide_eq_true h5) rfl ?_
  refine wl_pickT rfl (decide_eq_true h5) rfl rfl ?_
  refine wl_nil (qs_seq ?_)
  refine wc_sub (L' := [(28, _), (8, _), (6, _), (0, _), (1, _), (2, _)]) (.cons rfl (.cons rfl (.cons rfl (.cons rfl (.cons rfl (.cons rfl .nil)))))) ?_
  refine wc_condT rfl ?_
  refine wc_seq (wc_region (wl_assign rfl rfl (wl_nil (qs_seq (wc_ret (qs_then_ret ?_))))))
  refine fin1 (.inr rfl) rfl rfl ?_
  exact ⟨_, rfl, truncR_arg hm (by omega) hS4⟩
 refine wl_guard rfl rfl (decide_eq_false h5) ?_
 refine wl_move rfl rfl ?_
 refine wl_guard rfl rfl (decide_eq_false h5) ?_
 refine wl_move rfl rfl ?_
 refine wl_guard rfl rfl (decide_eq_false h5) ?_
 refine wl_lenS Tryz.underlying9 rfl rfl ?_
 refine wl_guard rfl rfl (decide_eq_false h5) ?_
 refine wl_gtr rfl rfl rfl ?_
 refine wl_pickF rfl (decide_eq_false h5) rfl rfl ?_
 refine wl_nil (qs_seq ?_)
 refine wc_sub (L' := [(28, _), (8, _), (6, _), (0, _), (1, _), (2, _)]) (.cons rfl (.cons rfl (.cons rfl (.cons rfl (.cons rfl (.cons rfl .nil)))))) ?_
 refine wc_condD rfl (fun h6 => ?_) (fun h6 => ?_)
 ·refine wc_seq (wc_region (wl_assign rfl rfl (wl_nil (qs_seq (wc_ret (qs_then_ret ?_))))))
  refine fin1 (.inr rfl) rfl rfl ?_
  exact ⟨_, rfl, truncR_arg hm (by omega) hS4⟩
 obtain ⟨n, rfl⟩ := Int.eq_ofNat_of_zero_le (show 0 ≤ size by omega)
 refine wc_skip (qs_seq (wc_seq (wc_region (wl_move rfl rfl (wl_move rfl rfl (wl_move rfl rfl (wl_move rfl rfl ?_)))))))
 refine wl_sliceS 0 n Tryz.underlying9 rfl (bndN _) (bndS n _ rfl rfl) (by omega) (by omega) rfl ?_
 have hC7 := hS4.split [0] [true, false] rfl; dsimp only [selF, pickA, nthA, List.cons_append, List.nil_append] at hC7
 refine wl_call cal_62 rfl (settleR_sp hC7 f (may_ok hm) _ (by simp; omega)) rfl ?_
 rintro e w7 ⟨_, rfl, rfl, hS7⟩; refine ⟨_, rfl, ?_⟩
 replace hS7 := hS7.join rfl; dsimp only [List.dropLast, List.cons_append, List.nil_append] at hS7; clear hC7
 clear hS4
 refine wl_nil (qs_seq ?_)
 refine wc_sub (L' := [(6, _)]) (.cons rfl .nil) ?_
 refine wc_seq (wc_region (wl_assign rfl rfl (wl_nil (qs_seq (wc_ret ?_)))))
 refine fin1 (.inr rfl) rfl rfl ?_
 exact ⟨_, rfl, truncR_ok hm (by omega) hS7⟩
theorem armR_end {w : World} {p : Nat} {kv fv qv : Value} {D : DS} {ks : List Int} {l : List (Int × Bytes × Bytes)} {F : Th} {n : Int} (hI : RInv l D) (hn : n ≤ 9223372036854775807) (h : Sat w [rowT inC kv ([] ++ ks), blkT p [fv, qv, intV D.lost, .bool D.down, intV (max n 0), kv], rowT rfC fv l, rowT scC qv D.Q, F]) : Sat w [refT p kv { D with armed := max n 0, keep := ks }, rowT inC kv ks, F] :=
  (refT_shut (D := { D with armed := max n 0, keep := ks }) ⟨fv, qv, l⟩ (hI.upd rfl { hI.inv with armed := ⟨by simp; omega, by simp; omega⟩ }) (h.pick [1, 2, 3, 0, 4] rfl))
set_option maxRecDepth 100000 in
theorem armR_sp {w : World} {p : Nat} {kp : Value} {D : DS} {F : Th} (hS : Sat w [refT p kp D, F]) (n : Int) (hn : n ≤ 9223372036854775807) {kv : Value} {ks : List Int} (hK : Ent F (RdL inC kv ks)) (hl : ks.length ≤ 20000000) :
    Calls Tryz.prog 24 #[ptrV p 0, intV n, kv] w (Ret fun v w' => ∃ kv', v = .tuple #[] ∧ Sat w' [refT p kv' { D with armed := max n 0, keep := ks }, rowT inC kv' ks, F]) := by
 obtain ⟨ao, capk, rfl, hkmax⟩ := (hK.sat hS 1 rfl).shape
 obtain ⟨⟨fv, qv, l⟩, hI, hS⟩ := refT_open hS; dsimp only at hI hS
 refine calls_enter Tryz.func24 rfl Tryz.ntmps24 rfl ?_
 refine wc_seq (wc_region (wl_move rfl rfl (wl_move rfl rfl ?_)))
 refine wl_maxI rfl rfl rfl ?_
 refine wl_nilCheck rfl rfl ?_
 refine wl_fieldAddr rfl fo_92_4 rfl ?_
 first | (refine wl_store hS rfl rfl sz_3 (by first | rfl | assumption | exact hS.own_one 1 rfl | exact hS.own_one 2 rfl) (i := 0) rfl (by first | decide | exact Nat.le_of_ble_eq_true rfl | (simp; done) | omega) ?_)
 intro w1 hS2; dsimp only [List.set] at hS2
 refine wl_nil (qs_seq (wc_region (wl_move rfl rfl ?_)))
 refine wl_rowBuild inC [] hS2 rfl Tryz.underlying40 ifz_3 rfl rfl rfl rfl (by first | rfl | simp [RowC.cells, fillL, splice]) rfl ?_
 intro b3 w3 hS3
 clear hS2
 refine wl_move rfl rfl ?_
 refine wl_rowApp inC 0 hS3 rfl rfl rfl ((hK.sat hS3 4 rfl)) Tryz.underlying40 Tryz.underlying40 (by intro k hk; cases hk) ifo_3 rfl (by simp only [List.length_nil]; omega) rfl (by simp only [List.length_nil]; omega) ?_
 intro v4 w4 hS4; dsimp only [List.set] at hS4
 clear hS3
 have h1v4 : v4.oneCell' = true := hS4.own_one 0 rfl
 refine wl_nilCheck rfl rfl ?_
 refine wl_fieldAddr rfl fo_92_5 rfl ?_
 first | (refine wl_store hS4 rfl rfl sz_40 (by first | rfl | assumption | exact hS4.own_one 0 rfl | exact hS4.own_one 2 rfl | exact hS4.own_one 3 rfl) (i := 1) rfl (by first | decide | exact Nat.le_of_ble_eq_true rfl | (simp; done) | omega) ?_)
 intro w5 hS6; dsimp only [List.set] at hS6
 clear hS4
 refine wl_nil ?_
 refine fin0 (.inl rfl) rfl ?_
 exact ⟨_, rfl, _, rfl, armR_end hI hn hS6⟩
def rT (p : Nat) (D : DS) : Th := exT fun kp : Value => starL [pureT (D.keep.length ≤ 1000), refT p kp D, rowT inC kp D.keep]
theorem rT_open {w : World} {p : Nat} {D : DS} {As : List Th} (h : Sat w (rT p D :: As)) : ∃ kp, D.keep.length ≤ 1000 ∧ Sat w (refT p kp D :: rowT inC kp D.keep :: As) := by
  obtain ⟨kp, h⟩ := h.ex
  exact ⟨kp, h.flat.pure_elim⟩
theorem rT_shut {w : World} {p : Nat} {D : DS} {As : List Th} (kp : Value) (hl : D.keep.length ≤ 1000) (h : Sat w (refT p kp D :: rowT inC kp D.keep :: As)) : Sat w (rT p D :: As) :=
  Sat.ex_intro kp (Sat.fold (As := [pureT (D.keep.length ≤ 1000), refT p kp D, rowT inC kp D.keep]) (Sat.pure_intro hl h))
theorem keepR_ent {kp : Value} {D : DS} {F : Th} (h : D.keep.length ≤ 1000) : Ent (starL [rowT inC kp D.keep, F]) (RdL inC kp D.keep) := Ent.starL (A := rowT inC kp D.keep) (ent_row (by omega)) 0 rfl
theorem rT_same {w : World} {p : Nat} {kp : Value} {D D' : DS} {F : Th} (hl : D.keep.length ≤ 1000) (hk : D'.keep = D.keep) (h : Sat w [refT p kp D', starL [rowT inC kp D.keep, F]]) : Sat w [rT p D', F] :=
  rT_shut kp (by rw [hk]; exact hl) (by have := h.join rfl; rw [hk]; exact this)
theorem rT_new {w : World} {p : Nat} {F : Th} (h : Sat w [refT p (.slice none 0 0) newD, F]) : Sat w [rT p newD, F] :=
  rT_shut (.slice none 0 0) (by simp [newD]) ((h.row_nil inC).reorder [1, 0, 2] rfl)
theorem downRT {w : World} {p : Nat} {D : DS} {F : Th} (hS : Sat w [rT p D, F])  : Calls Tryz.prog 29 #[ptrV p 0] w (Ret fun v w' => v = .bool D.down ∧ Sat w' [rT p D, F]) := by
  obtain ⟨kp, hl, hS⟩ := rT_open hS
  have hC := hS.split [0] [true, false, false] rfl; dsimp only [selF, pickA, nthA, List.cons_append, List.nil_append] at hC
  refine (downR_sp hC).mono fun e w' h => h.mono fun v w' ⟨h1, h2⟩ => ⟨h1, ?_⟩
  exact rT_same hl (rfl) h2
theorem sizeRT {w : World} {p : Nat} {D : DS} {F : Th} (hS : Sat w [rT p D, F]) (f : Int) : Calls Tryz.prog 34 #[ptrV p 0, intV f] w (Ret fun v w' => v = intV (D.F f).1.length ∧ Sat w' [rT p D, F]) := by
  obtain ⟨kp, hl, hS⟩ := rT_open hS
  have hC := hS.split [0] [true, false, false] rfl; dsimp only [selF, pickA, nthA, List.cons_append, List.nil_append] at hC
  refine (sizeR_sp hC f).mono fun e w' h => h.mono fun v w' ⟨h1, h2⟩ => ⟨h1, ?_⟩
  exact rT_same hl (rfl) h2
theorem readRT {w : World} {p : Nat} {D : DS} {F : Th} (hS : Sat w [rT p D, F]) (f a n : Int) : Calls Tryz.prog 33 #[ptrV p 0, intV f, intV a, intV n] w (Ret fun v w' => v = .tuple #[strV (ReadS D f a n), intV (ReadE D f a n)] ∧ Sat w' [rT p D, F]) := by
  obtain ⟨kp, hl, hS⟩ := rT_open hS
  have hC := hS.split [0] [true, false, false] rfl; dsimp only [selF, pickA, nthA, List.cons_append, List.nil_append] at hC
  refine (readR_sp hC f a n).mono fun e w' h => h.mono fun v w' ⟨h1, h2⟩ => ⟨h1, ?_⟩
  exact rT_same hl (rfl) h2
theorem syncRT {w : World} {p : Nat} {D : DS} {F : Th} (hS : Sat w [rT p D, F]) (f : Int) : Calls Tryz.prog 23 #[ptrV p 0, intV f] w (Ret fun v w' => v = intV (SyncE D f) ∧ Sat w' [rT p (SyncD D f), F]) := by
  obtain ⟨kp, hl, hS⟩ := rT_open hS
  have hC := hS.split [0] [true, false, false] rfl; dsimp only [selF, pickA, nthA, List.cons_append, List.nil_append] at hC
  refine (SyncR_sp hC (keepR_ent hl) f).mono fun e w' h => h.mono fun v w' ⟨h1, h2⟩ => ⟨h1, ?_⟩
  exact rT_same hl (SyncD_keep _ _) h2
theorem truncRT {w : World} {p : Nat} {D : DS} {F : Th} (hS : Sat w [rT p D, F]) (f s : Int) : Calls Tryz.prog 74 #[ptrV p 0, intV f, intV s] w (Ret fun v w' => v = intV (TruncE D f s) ∧ Sat w' [rT p (TruncD D f s), F]) := by
  obtain ⟨kp, hl, hS⟩ := rT_open hS
  have hC := hS.split [0] [true, false, false] rfl; dsimp only [selF, pickA, nthA, List.cons_append, List.nil_append] at hC
  refine (TruncR_sp hC (keepR_ent hl) f s).mono fun e w' h => h.mono fun v w' ⟨h1, h2⟩ => ⟨h1, ?_⟩
  exact rT_same hl (TruncD_keep _ _ _) h2
theorem writeRT {w : World} {p : Nat} {D : DS} {F : Th} (hS : Sat w [rT p D, F]) (f a : Int) (s : Bytes) (hs : s.length ≤ 1099511627776) : Calls Tryz.prog 21 #[ptrV p 0, intV f, intV a, strV s] w (Ret fun v w' => v = intV (WriteE D f a s) ∧ Sat w' [rT p (WriteD D f a s), F]) := by
  obtain ⟨kp, hl, hS⟩ := rT_open hS
  have hC := hS.split [0] [true, false, false] rfl; dsimp only [selF, pickA, nthA, List.cons_append, List.nil_append] at hC
  refine (writeR_sp hC (keepR_ent hl) f a s hs).mono fun e w' h => h.mono fun v w' ⟨h1, h2⟩ => ⟨h1, ?_⟩
  exact rT_same hl (WriteD_keep _ _ _ _) h2
theorem startRT {w : World} {p : Nat} {D : DS} {F : Th} (hS : Sat w [rT p D, F])  : Calls Tryz.prog 30 #[ptrV p 0] w (Ret fun v w' => v = .tuple #[] ∧ Sat w' [rT p (startD D), F]) := by
  obtain ⟨kp, hl, hS⟩ := rT_open hS
  have hC := hS.split [0] [true, false, false] rfl; dsimp only [selF, pickA, nthA, List.cons_append, List.nil_append] at hC
  refine (startR_sp hC).mono fun e w' h => h.mono fun v w' ⟨h1, h2⟩ => ⟨h1, ?_⟩
  exact rT_same hl (rfl) h2
theorem loseRT {w : World} {p : Nat} {D : DS} {F : Th} (hS : Sat w [rT p D, F]) (n : Int) (hn : n ≤ 9223372036854775807) : Calls Tryz.prog 27 #[ptrV p 0, intV n] w (Ret fun v w' => v = .tuple #[] ∧ Sat w' [rT p { D with lost := max n 0 }, F]) := by
  obtain ⟨kp, hl, hS⟩ := rT_open hS
  have hC := hS.split [0] [true, false, false] rfl; dsimp only [selF, pickA, nthA, List.cons_append, List.nil_append] at hC
  refine (loseR_sp hC n hn).mono fun e w' h => h.mono fun v w' ⟨h1, h2⟩ => ⟨h1, ?_⟩
  exact rT_same hl (rfl) h2
theorem armRT {w : World} {p : Nat} {D : DS} {F : Th} (hS : Sat w [rT p D, F]) (n : Int) (hn : n ≤ 9223372036854775807) {kv : Value} {ks : List Int} (hK : Ent F (RdL inC kv ks)) (hl : ks.length ≤ 1000) : Calls Tryz.prog 24 #[ptrV p 0, intV n, kv] w (Ret fun v w' => v = .tuple #[] ∧ Sat w' [rT p (armD D n ks), F]) := by
  obtain ⟨kp, _, hS⟩ := rT_open hS
  have hC := hS.split [0] [true, false, false] rfl; dsimp only [selF, pickA, nthA, List.cons_append, List.nil_append] at hC
  refine (armR_sp hC n hn (hK.starL 1 rfl) (by omega)).mono fun e w' h => h.mono fun v w' ⟨kv', h1, h2⟩ => ⟨h1, ?_⟩
  have h4 := h2.join rfl
  dsimp only [List.dropLast, List.cons_append, List.nil_append] at h4
  exact rT_shut kv' (by show ks.length ≤ 1000; omega) (h4.drop 2 rfl)
end Go.Proofs.YtfmkodmmbgibgaaGreatDoor
/- Closed facts of the program: offsets, sizes, zero values. -/
namespace Go.Proofs.YtfmkodmmbgibgaaGreatDoor
open Go.RowKit M
theorem ag_25 : aggB Tryz.prog 25 = some false := by kernel_rfl
theorem ag_46 : aggB Tryz.prog 46 = some false := by kernel_rfl
theorem asz_109 : allSz Tryz.prog 109 = true := by kernel_rfl
theorem asz_138 : allSz Tryz.prog 138 = true := by kernel_rfl
theorem cal_20 : callB Tryz.prog 20 = true := by kernel_rfl
theorem cal_21 : callB Tryz.prog 21 = true := by kernel_rfl
theorem cal_22 : callB Tryz.prog 22 = true := by kernel_rfl
theorem cal_23 : callB Tryz.prog 23 = true := by kernel_rfl
theorem cal_31 : callB Tryz.prog 31 = true := by kernel_rfl
theorem cal_33 : callB Tryz.prog 33 = true := by kernel_rfl
theorem cal_100 : callB Tryz.prog 100 = true := by kernel_rfl
theorem cal_114 : callB Tryz.prog 114 = true := by kernel_rfl
theorem fo_109_0 : fldOff Tryz.prog 109 0 = some 0 := by kernel_rfl
theorem fo_109_1 : fldOff Tryz.prog 109 1 = some 1 := by kernel_rfl
theorem fo_109_2 : fldOff Tryz.prog 109 2 = some 2 := by kernel_rfl
theorem fo_109_3 : fldOff Tryz.prog 109 3 = some 3 := by kernel_rfl
theorem fo_109_4 : fldOff Tryz.prog 109 4 = some 4 := by kernel_rfl
theorem fo_138_0 : fldOff Tryz.prog 138 0 = some 0 := by kernel_rfl
theorem fo_138_1 : fldOff Tryz.prog 138 1 = some 1 := by kernel_rfl
theorem fo_138_2 : fldOff Tryz.prog 138 2 = some 2 := by kernel_rfl
theorem fo_138_3 : fldOff Tryz.prog 138 3 = some 3 := by kernel_rfl
theorem fo_138_4 : fldOff Tryz.prog 138 4 = some 4 := by kernel_rfl
theorem pl_109_0_1 : structPl Tryz.prog 109 [0, 1] = some [(0, 1), (1, 1)] := by kernel_rfl
theorem pl_138_0_1 : structPl Tryz.prog 138 [0, 1] = some [(0, 1), (1, 1)] := by kernel_rfl
theorem zr_109 : zeroOf Tryz.prog 109 = some (some (.agg #[(.pointer none), (.int .i64 0), (.int .i64 0), (.string ⟨#[]⟩), (.bool false)])) := by kernel_rfl
theorem zr_138 : zeroOf Tryz.prog 138 = some (some (.agg #[(.pointer none), (.int .i64 0), (.int .i64 0), (.string ⟨#[]⟩), (.bool false)])) := by kernel_rfl
end Go.Proofs.YtfmkodmmbgibgaaGreatDoor
/- cell: Open -/
namespace Go.Proofs.YtfmkodmmbgibgaaGreatDoor
open Go.RowKit M
set_option linter.unusedVariables false
def acc (b1 b2 b3 b4 : UInt8) : Nat → Nat
  | 0 => ((b4.toNat * 256 + b3.toNat) * 256 + b2.toNat) * 256 + b1.toNat
  | 1 => (b4.toNat * 256 + b3.toNat) * 256 + b2.toNat
  | 2 => b4.toNat * 256 + b3.toNat
  | 3 => b4.toNat
  | _ => 0
theorem acc_step {b0 b1 b2 b3 b4 c : UInt8} {i : Nat} (h0 : 0 < i) (h4 : i ≤ 4) (hc : [b0, b1, b2, b3, b4][i]? = some c) : acc b1 b2 b3 b4 (i - 1) = acc b1 b2 b3 b4 i * 256 + c.toNat := by
  obtain rfl | rfl | rfl | rfl : i = 1 ∨ i = 2 ∨ i = 3 ∨ i = 4 := by omega
  all_goals (simp at hc; subst hc; simp [acc])
theorem acc_lt2 {b1 b2 b3 b4 : UInt8} {i : Nat} (h : 0 < i) : acc b1 b2 b3 b4 i < 16777216 := by
  have := u8_lt b1; have := u8_lt b2; have := u8_lt b3; have := u8_lt b4
  unfold acc; split <;> omega
theorem acc_end (b1 b2 b3 b4 : UInt8) : acc b1 b2 b3 b4 0 = hdrN b1 b2 b3 b4 := by simp only [acc, hdrN]; omega
theorem u8_ne {b : UInt8} {k : Nat} (hk : k < 256) (h : ¬ ((b.toNat : Int) = (k : Int))) : b ≠ UInt8.ofNat k := by
  intro e; subst e; apply h; simp; omega
theorem u8_eq {b : UInt8} {k : Nat} (hk : k < 256) (h : (b.toNat : Int) = (k : Int)) : b = UInt8.ofNat k := by
  apply UInt8.toNat_inj.1; simp; omega
theorem five {h : Bytes} (h1 : h.length = 5) {b0 : UInt8} {r : Bytes} (hb : h = b0 :: r) : ∃ b1 b2 b3 b4, r = [b1, b2, b3, b4] := by
  subst hb
  match r, h1 with
  | [b1, b2, b3, b4], _ => exact ⟨_, _, _, _, rfl⟩
theorem hdr_none {h : Bytes} (hh : h = [] ∨ ∃ r, h = 0 :: r) : hdrOf h = .none := by
  rcases hh with rfl | ⟨r, rfl⟩
  · rfl
  · simp [hdrOf]
theorem hdr_short {b0 : UInt8} {r : Bytes} (h0 : b0 ≠ 0) (hl : r.length ≠ 4) : hdrOf (b0 :: r) = .bad := by
  unfold hdrOf
  simp only [h0, if_false]
  split
  · simp at hl
  · rfl
theorem hdr_bad {b0 b1 b2 b3 b4 : UInt8} (h0 : b0 ≠ 0) (hb : ¬ ((b0 = 1 ∨ b0 = 2) ∧ hdrN b1 b2 b3 b4 ≤ 65536)) : hdrOf [b0, b1, b2, b3, b4] = .bad := by
  simp only [hdrOf, h0, if_false, if_neg hb]
theorem hdr_ok {b0 b1 b2 b3 b4 : UInt8} (hb : b0 = 1 ∨ b0 = 2) (hn : hdrN b1 b2 b3 b4 ≤ 65536) : hdrOf [b0, b1, b2, b3, b4] = .slot b0.toNat (hdrN b1 b2 b3 b4) := by
  have h0 : b0 ≠ 0 := by rcases hb with rfl | rfl <;> decide
  simp only [hdrOf, h0, if_false, if_pos (And.intro hb hn)]
theorem open_none {D : DS} {f : Int} (h1 : ReadE D f 0 5 = 0) (h2 : hdrOf (ReadS D f 0 5) = .none) : openE D f = 0 ∧ openC D f = newC f := by
  rw [openE, openC, if_neg (by omega), h2]; exact ⟨rfl, rfl⟩
theorem open_err {D : DS} {f : Int} (h1 : ReadE D f 0 5 ≠ 0) : openE D f ≠ 0 ∧ openE D f = ReadE D f 0 5 := by
  have : openE D f = ReadE D f 0 5 := by rw [openE, if_pos h1]
  exact ⟨by rw [this]; exact h1, this⟩
theorem open_bad {D : DS} {f : Int} (h1 : ReadE D f 0 5 = 0) (h2 : hdrOf (ReadS D f 0 5) = .bad) : openE D f ≠ 0 ∧ openE D f = 2 := by
  have : openE D f = 2 := by rw [openE, if_neg (by omega), h2]
  exact ⟨by rw [this]; decide, this⟩
theorem open_cut {D : DS} {f : Int} {s n : Nat} (h1 : ReadE D f 0 5 = 0) (h2 : hdrOf (ReadS D f 0 5) = .slot s n) (h3 : (ReadS D f (slotOff s) n).length < n) : openE D f ≠ 0 ∧ openE D f = 2 := by
  have : openE D f = 2 := by rw [openE, if_neg (by omega), h2]; simp only; rw [if_pos h3]
  exact ⟨by rw [this]; decide, this⟩
theorem open_ok {D : DS} {f : Int} {s n : Nat} (h1 : ReadE D f 0 5 = 0) (h2 : hdrOf (ReadS D f 0 5) = .slot s n) (h3 : ¬ (ReadS D f (slotOff s) n).length < n) : openE D f = 0 ∧ openC D f = ⟨f, s, ReadS D f (slotOff s) n, false⟩ := by
  refine ⟨?_, ?_⟩
  · rw [openE, if_neg (by omega), h2]; simp only; rw [if_neg h3]
  · rw [openC, h2]
set_option maxRecDepth 100000 in
theorem open_sp {w : World} {p : Nat} {D : DS} {F : Th} (hS : Sat w [dT p D, F]) (hG : Ent F (Glob 0)) (f : Int) :
    Calls Tryz.prog 35 #[ptrV p 0, intV f] w (Ret fun v w' => (openE D f = 0 ∧ ∃ c, v = .tuple #[ptrV c 0, intV 0] ∧ Sat w' [blkT c (cellV p (openC D f)), dT p D, F]) ∨ (openE D f ≠ 0 ∧ v = .tuple #[.pointer none, intV (openE D f)] ∧ Sat w' [dT p D, F])) := by
 refine calls_enter Tryz.func35 rfl Tryz.ntmps35 rfl ?_
 refine wc_seq (wc_region (wl_assign rfl rfl (wl_assign rfl rfl (wl_nil (qs_seq (wc_seq (wc_region (wl_move rfl rfl (wl_move rfl rfl ?_)))))))))
 refine wl_buildS rfl pl_109_0_1 asz_109 zr_109 rfl rfl ?_
 refine wl_box hS rfl rfl rfl ?_
 intro b1 w1 hS1
 refine wl_assign rfl rfl (wl_nil (qs_seq (wc_seq (wc_region (wl_move rfl rfl (wl_move rfl rfl ?_))))))
 have hC2 := hS1.split [1] [false, true, false] rfl; dsimp only [selF, pickA, nthA, List.cons_append, List.nil_append] at hC2
 refine wl_call cal_31 rfl (dreadT hC2 f 0 5) rfl ?_
 rintro e w2 ⟨_, rfl, rfl, hS2⟩; refine ⟨_, rfl, ?_⟩
 replace hS2 := hS2.join rfl; dsimp only [List.dropLast, List.cons_append, List.nil_append] at hS2; clear hC2
 clear hS1
 refine wl_move rfl rfl (wl_extract rfl rfl rfl (wl_extract rfl rfl rfl (wl_assign rfl rfl (wl_assign rfl rfl (wl_nil ?_)))))
 obtain ⟨h, hH⟩ : ∃ h, h = ReadS D f 0 5 := ⟨_, rfl⟩
 rw [← hH]
 have hh5 : (h.length : Int) ≤ 5 := by have := ReadS_len (D := D) (f := f) (a := 0) (n := 5); rw [← hH] at this; omega
 refine qs_seq ?_
 refine wc_sub (L' := [(8, _), (7, _), (6, _), (5, _), (4, _), (0, _), (1, _)]) (.cons rfl (.cons rfl (.cons rfl (.cons rfl (.cons rfl (.cons rfl (.cons rfl .nil))))))) ?_
 refine wc_seq (wc_seq (wc_region (wl_move rfl rfl ?_)))
 refine wl_neq rfl rfl rfl ?_
 refine wl_nil (qs_seq ?_)
 refine wc_condD rfl (fun h3 => ?_) (fun h3 => ?_)
 ·have hE : ReadE D f 0 5 ≠ 0 := h3
  refine wc_seq (wc_region (wl_move rfl rfl (wl_assign rfl rfl (wl_assign rfl rfl (wl_nil (qs_seq (wc_ret (qs_then_ret ?_))))))))
  refine fin2 (.inr rfl) rfl rfl rfl ?_
  exact ⟨_, rfl, .inr ⟨(open_err hE).1, by rw [(open_err hE).2], hS2.pick [0, 2] rfl⟩⟩
 have hE : ReadE D f 0 5 = 0 := Decidable.not_not.1 h3
 refine wc_skip (qs_seq (wc_seq (wc_seq (wc_region (wl_move rfl rfl ?_)))))
 refine wl_eqlS rfl rfl rfl ?_
 refine wl_move rfl rfl ?_
 refine wl_splitD 26 rfl (fun h4 => ?_) (fun h4 => ?_)
 ·have hh0 : h = [] := h4
  refine wl_unwanted rfl rfl (decide_eq_true h4) rfl ?_
  refine wl_unwanted rfl rfl (decide_eq_true h4) rfl ?_
  refine wl_unwanted rfl rfl (decide_eq_true h4) rfl ?_
  refine wl_pickT rfl (decide_eq_true h4) rfl rfl ?_
  refine wl_nil (qs_seq ?_)
  refine wc_sub (L' := [(30, _), (8, _), (7, _), (6, _), (5, _), (4, _), (0, _), (1, _)]) (.cons rfl (.cons rfl (.cons rfl (.cons rfl (.cons rfl (.cons rfl (.cons rfl (.cons rfl .nil)))))))) ?_
  refine wc_condT rfl ?_
  refine wc_seq (wc_region (wl_move rfl rfl (wl_assign rfl rfl (wl_assign rfl rfl (wl_nil (qs_seq (wc_ret (qs_then_ret ?_))))))))
  refine fin2 (.inr rfl) rfl rfl rfl ?_
  subst hh0
  exact ⟨_, rfl, .inl ⟨(open_none hE (by rw [← hH]; exact hdr_none (.inl rfl))).1, _, rfl, by rw [(open_none hE (by rw [← hH]; exact hdr_none (.inl rfl))).2]; exact hS2.pick [1, 0, 2] rfl⟩⟩
 obtain ⟨b0, r, rfl⟩ := List.exists_cons_of_ne_nil h4
 refine wl_guard rfl rfl (decide_eq_false h4) ?_
 refine wl_move rfl rfl ?_
 refine wl_guard rfl rfl (decide_eq_false h4) ?_
 refine wl_indexS _ Tryz.underlying9 rfl rfl (by first | rfl | omega) (by first | assumption | rfl) rfl ?_
 refine wl_guard rfl rfl (decide_eq_false h4) ?_
 refine wl_eql rfl rfl rfl ?_
 refine wl_pickF rfl (decide_eq_false h4) rfl rfl ?_
 refine wl_nil (qs_seq ?_)
 refine wc_sub (L' := [(30, _), (8, _), (7, _), (6, _), (5, _), (4, _), (0, _), (1, _)]) (.cons rfl (.cons rfl (.cons rfl (.cons rfl (.cons rfl (.cons rfl (.cons rfl (.cons rfl .nil)))))))) ?_
 refine wc_condD rfl (fun h5 => ?_) (fun h5 => ?_)
 ·have hb00 : b0 = 0 := u8_eq (k := 0) (by omega) h5
  refine wc_seq (wc_region (wl_move rfl rfl (wl_assign rfl rfl (wl_assign rfl rfl (wl_nil (qs_seq (wc_ret (qs_then_ret ?_))))))))
  refine fin2 (.inr rfl) rfl rfl rfl ?_
  exact ⟨_, rfl, .inl ⟨(open_none hE (by rw [← hH]; exact hdr_none (.inr ⟨r, by rw [hb00]⟩))).1, _, rfl, by rw [(open_none hE (by rw [← hH]; exact hdr_none (.inr ⟨r, by rw [hb00]⟩))).2]; exact hS2.pick [1, 0, 2] rfl⟩⟩
 have hb0 : b0 ≠ 0 := u8_ne (k := 0) (by omega) h5
 refine wc_skip (qs_seq (wc_seq (wc_seq (wc_region (wl_move rfl rfl ?_)))))
 refine wl_lenS Tryz.underlying9 rfl rfl ?_
 refine wl_lss rfl rfl rfl ?_
 refine wl_move rfl rfl ?_
 refine wl_splitD 35 rfl (fun h6 => ?_) (fun h6 => ?_)
 ·have hlen5 := h6
  refine wl_unwanted rfl rfl (decide_eq_true h6) rfl ?_
  refine wl_unwanted rfl rfl (decide_eq_true h6) rfl ?_
  refine wl_unwanted rfl rfl (decide_eq_true h6) rfl ?_
  refine wl_unwanted rfl rfl (decide_eq_true h6) rfl ?_
  refine wl_unguarded rfl rfl rfl ?_
  refine wl_unguarded rfl rfl rfl ?_
  refine wl_unguarded rfl rfl rfl ?_
  refine wl_unwanted rfl rfl (decide_eq_true h6) rfl ?_
  refine wl_pickT rfl (decide_eq_true h6) rfl rfl ?_
  refine wl_nil (qs_seq ?_)
  refine wc_sub (L' := [(44, _), (8, _), (7, _), (6, _), (5, _), (4, _), (0, _), (1, _)]) (.cons rfl (.cons rfl (.cons rfl (.cons rfl (.cons rfl (.cons rfl (.cons rfl (.cons rfl .nil)))))))) ?_
  refine wc_condT rfl ?_
  refine wc_seq (wc_region (wl_assign rfl rfl (wl_assign rfl rfl (wl_nil (qs_seq (wc_ret (qs_then_ret ?_)))))))
  refine fin2 (.inr rfl) rfl rfl rfl ?_
  exact ⟨_, rfl, .inr ⟨(open_bad hE (by rw [← hH]; exact hdr_short hb0 (by simp at hlen5; omega))).1, by rw [(open_bad hE (by rw [← hH]; exact hdr_short hb0 (by simp at hlen5; omega))).2], hS2.pick [0, 2] rfl⟩⟩
 have hlen5 : r.length = 4 := by simp at hh5; have := h6; simp at this; omega
 obtain ⟨b1_, b2, b3, b4, rfl⟩ : ∃ b1 b2 b3 b4, r = [b1, b2, b3, b4] := by match r, hlen5 with | [b1, b2, b3, b4], _ => exact ⟨_, _, _, _, rfl⟩
 refine wl_guard rfl rfl (decide_eq_false h6) ?_
 refine wl_move rfl rfl ?_
 refine wl_guard rfl rfl (decide_eq_false h6) ?_
 refine wl_indexS _ Tryz.underlying9 rfl rfl (by first | rfl | omega) (by first | assumption | rfl) rfl ?_
 refine wl_guard rfl rfl (decide_eq_false h6) ?_
 refine wl_neq rfl rfl rfl ?_
 refine wl_guard rfl rfl (decide_eq_false h6) ?_
 refine wl_move rfl rfl ?_
 refine wl_splitD 39 rfl (fun h7 => ?_) (fun h7 => ?_)
 ·have hn1 := u8_ne (k := 1) (by omega) h7
  refine wl_guard rfl rfl (decide_eq_true h7) ?_
  refine wl_move rfl rfl ?_
  refine wl_guard rfl rfl (decide_eq_true h7) ?_
  refine wl_indexS _ Tryz.underlying9 rfl rfl (by first | rfl | omega) (by first | assumption | rfl) rfl ?_
  refine wl_guard rfl rfl (decide_eq_true h7) ?_
  refine wl_neq rfl rfl rfl ?_
  refine wl_guard rfl rfl (decide_eq_false h6) ?_
  refine wl_pickT rfl (decide_eq_true h7) rfl rfl ?_
  refine wl_pickF rfl (decide_eq_false h6) rfl rfl ?_
  refine wl_nil (qs_seq ?_)
  refine wc_sub (L' := [(44, _), (8, _), (7, _), (6, _), (5, _), (4, _), (0, _), (1, _)]) (.cons rfl (.cons rfl (.cons rfl (.cons rfl (.cons rfl (.cons rfl (.cons rfl (.cons rfl .nil)))))))) ?_
  refine wc_condD rfl (fun h8 => ?_) (fun h8 => ?_)
  ·have hn2 := u8_ne (k := 2) (by omega) h8
   refine wc_seq (wc_region (wl_assign rfl rfl (wl_assign rfl rfl (wl_nil (qs_seq (wc_ret (qs_then_ret ?_)))))))
   refine fin2 (.inr rfl) rfl rfl rfl ?_
   exact ⟨_, rfl, .inr ⟨(open_bad hE (by rw [← hH]; exact hdr_bad hb0 (by rintro ⟨h12, _⟩; rcases h12 with rfl | rfl <;> simp_all))).1, by rw [(open_bad hE (by rw [← hH]; exact hdr_bad hb0 (by rintro ⟨h12, _⟩; rcases h12 with rfl | rfl <;> simp_all))).2], hS2.pick [0, 2] rfl⟩⟩
  have h12 : b0 = 1 ∨ b0 = 2 := .inr (u8_eq (k := 2) (by omega) (Decidable.not_not.1 h8))
  refine wc_skip (qs_seq (wc_seq (wc_region (wl_assign rfl rfl (wl_nil (qs_seq (wc_seq (wc_seq (wc_region (wl_assign rfl rfl (wl_nil (qs_seq (wc_block ?_)))))))))))))
  refine wc_loop (fun K0 E0 W0 => ∃ (i : Nat), K0 = 1 * i ∧ E0 = [(0, ptrV p 0), (1, intV f), (6, ptrV b1 0), (7, strV [b0, b1_, b2, b3, b4]), (9, intV (acc b1_ b2 b3 b4 i : Nat)), (10, intV (i : Int))] ∧ Sat W0 [blkT b1 (cellV p (newC f)), dT p D, F] ∧ (i ≤ 4)) (L0 := [(0, _), (1, _), (6, _), (7, _), (9, _), (10, _)]) (4) (.cons rfl (.cons rfl (.cons rfl (.cons rfl (.cons rfl (.cons rfl .nil)))))) ⟨4, rfl, rfl, hS2.reorder [1, 0, 2] rfl, by omega⟩ ?_
  rintro _ _ w9 ⟨i, rfl, rfl, hS9, hi⟩
  refine wc_seq (wc_seq (wc_region (wl_move rfl rfl ?_)))
  refine wl_gtr rfl rfl rfl ?_
  refine wl_nil (qs_seq ?_)
  refine wc_condD rfl (fun h10 => ?_) (fun h10 => ?_)
  ·obtain ⟨c, hc⟩ : ∃ c, [b0, b1_, b2, b3, b4][i]? = some c := ⟨_, List.getElem?_eq_getElem (by simp; omega)⟩
   have hacc := acc_step (by omega) hi hc
   have hal := acc_lt2 (b1 := b1_) (b2 := b2) (b3 := b3) (b4 := b4) (show 0 < i by omega)
   have hcl := u8_lt c
   have hi1 : ((i - 1 : Nat) : Int) = (i : Int) - 1 := by omega
   refine wc_skip (qs_seq (wc_seq (wc_block (wc_region (wl_move rfl rfl ?_)))))
   refine wl_shl 8 rfl rfl rfl rfl (q := 256) rfl (by omega) (by omega) rfl ?_
   refine wl_move rfl rfl (wl_move rfl rfl ?_)
   refine wl_indexS _ Tryz.underlying9 rfl rfl (by first | rfl | omega) (by first | assumption | rfl) rfl ?_
   refine wl_convU8 Tryz.underlying5 Tryz.underlying3 rfl rfl ?_
   refine wl_or 8 (acc b1_ b2 b3 b4 i) rfl rfl (by first | rfl | omega) (by constructor <;> omega) (by omega) rfl ?_
   refine wl_assign rfl rfl (wl_nil (qs_block_normal (qs_seq ?_)))
   refine wc_sub (L' := [(9, _), (0, _), (1, _), (6, _), (7, _), (10, _)]) (.cons rfl (.cons rfl (.cons rfl (.cons rfl (.cons rfl (.cons rfl .nil)))))) ?_
   refine wc_region (wl_move rfl rfl ?_)
   refine wl_sub' rfl rfl (by omega) (by omega) rfl ?_
   refine wl_assign rfl rfl (wl_nil ?_)
   exact qs_round (L1 := [(0, _), (1, _), (6, _), (7, _), (9, intV ((acc b1_ b2 b3 b4 (i - 1) : Nat) : Int)), (10, intV ((i - 1 : Nat) : Int))]) (.cons rfl (.cons rfl (.cons rfl (.cons rfl (.cons (by rw [hacc]; rfl) (.cons (by rw [hi1]; rfl) .nil)))))) (k1 := 1 * (i - 1)) (by omega) ⟨i - 1, rfl, rfl, hS9, by omega⟩
  obtain rfl : i = 0 := by omega
  refine wc_exit (qs_then_exit (qs_then_exit (qs_block_exit (qs_seq (wc_seq (wc_seq (wc_region (wl_move rfl rfl ?_))))))))
  refine wl_gtr rfl rfl rfl ?_
  refine wl_nil (qs_seq ?_)
  refine wc_condD rfl (fun h11 => ?_) (fun h11 => ?_)
  ·refine wc_seq (wc_region (wl_assign rfl rfl (wl_assign rfl rfl (wl_nil (qs_seq ?_)))))
   refine wc_sub (L' := [(5, _), (4, _), (0, _), (1, _), (6, _), (7, _), (9, _)]) (.cons rfl (.cons rfl (.cons rfl (.cons rfl (.cons rfl (.cons rfl (.cons rfl .nil))))))) ?_
   refine wc_ret (qs_then_ret ?_)
   refine fin2 (.inr rfl) rfl rfl rfl ?_
   exact ⟨_, rfl, .inr ⟨(open_bad hE (by rw [← hH]; exact hdr_bad hb0 (by rw [← acc_end]; omega))).1, by rw [(open_bad hE (by rw [← hH]; exact hdr_bad hb0 (by rw [← acc_end]; omega))).2], hS9.pick [1, 2] rfl⟩⟩
  have hn : hdrN b1_ b2 b3 b4 ≤ 65536 := by rw [← acc_end]; omega
  have hSl : hdrOf (ReadS D f 0 5) = .slot b0.toNat (hdrN b1_ b2 b3 b4) := by rw [← hH]; exact hdr_ok h12 hn
  rw [acc_end]
  obtain ⟨n, hN⟩ : ∃ n, n = hdrN b1_ b2 b3 b4 := ⟨_, rfl⟩
  rw [← hN] at hSl hn ⊢
  have h12n : b0.toNat = 1 ∨ b0.toNat = 2 := by rcases h12 with rfl | rfl <;> simp
  refine wc_skip (qs_seq (wc_seq (wc_region (wl_move rfl rfl (wl_move rfl rfl ?_)))))
  refine wl_indexS _ Tryz.underlying9 rfl rfl (by first | rfl | omega) (by first | assumption | rfl) rfl ?_
  refine wl_convU8 Tryz.underlying5 Tryz.underlying3 rfl rfl ?_
  refine wl_nilCheck rfl rfl ?_
  refine wl_fieldAddr rfl fo_109_2 rfl ?_
  first | (refine wl_store hS9 rfl rfl sz_3 (by first | rfl | assumption) (i := 0) rfl (by first | decide | exact Nat.le_of_ble_eq_true rfl | (simp; done) | omega) ?_)
  intro w12 hS13; dsimp only [List.set] at hS13
  clear hS9
  refine wl_nil (qs_seq ?_)
  refine wc_sub (L' := [(0, _), (1, _), (6, _), (9, _)]) (.cons rfl (.cons rfl (.cons rfl (.cons rfl .nil)))) ?_
  refine wc_seq (wc_region (wl_move rfl rfl (wl_move rfl rfl (wl_move rfl rfl (wl_move rfl rfl (wl_nilCheck rfl rfl ?_))))))
  refine wl_fieldAddr rfl fo_109_2 rfl ?_
  refine wl_load rfl ag_3 (by first | assumption | exact hS13.cell 0 rfl rfl) rfl ?_
  refine wl_indexAddrA _ Tryz.underlying111 rfl rfl (by first | rfl | omega) (by omega) sz_3 rfl ?_
  have hg := (hG.sat hS13 2 rfl).off h12n
  refine wl_load rfl ag_3 (by first | assumption | exact hS13.cell 0 rfl rfl) rfl ?_
  refine wl_move rfl rfl ?_
  have hC14 := hS13.split [1] [false, true, false] rfl; dsimp only [selF, pickA, nthA, List.cons_append, List.nil_append] at hC14
  refine wl_call cal_31 rfl (dreadT hC14 f (slotOff b0.toNat) n) rfl ?_
  rintro e w14 ⟨_, rfl, rfl, hS14⟩; refine ⟨_, rfl, ?_⟩
  replace hS14 := hS14.join rfl; dsimp only [List.dropLast, List.cons_append, List.nil_append] at hS14; clear hC14
  clear hS13
  have hE2 : ReadE D f (slotOff b0.toNat) n = 0 := ReadE_same hE (slotOff_pos _) (by omega)
  rw [hE2]
  refine wl_move rfl rfl (wl_extract rfl rfl rfl (wl_extract rfl rfl rfl (wl_nilCheck rfl rfl ?_)))
  refine wl_fieldAddr rfl fo_109_3 rfl ?_
  first | (refine wl_store hS14 rfl rfl sz_9 (by first | rfl | assumption) (i := 1) rfl (by first | decide | exact Nat.le_of_ble_eq_true rfl | (simp; done) | omega) ?_)
  intro w15 hS16; dsimp only [List.set] at hS16
  clear hS14
  refine wl_assign rfl rfl (wl_nil ?_)
  have hE2 : ReadE D f (slotOff b0.toNat) n = 0 := ReadE_same hE (slotOff_pos _) (by omega)
  refine qs_seq ?_
  refine wc_sub (L' := [(8, _), (6, _), (9, _)]) (.cons rfl (.cons rfl (.cons rfl .nil))) ?_
  refine wc_seq (wc_seq (wc_region (wl_move rfl rfl ?_)))
  refine wl_eql rfl rfl rfl ?_
  refine wl_move rfl rfl ?_
  refine wl_splitD 82 rfl (fun h17 => ?_) (fun h17 => ?_)
  ·refine wl_guard rfl rfl (decide_eq_true h17) ?_
   refine wl_move rfl rfl ?_
   refine wl_guard rfl rfl (decide_eq_true h17) ?_
   refine wl_nilCheck rfl rfl ?_
   refine wl_guard rfl rfl (decide_eq_true h17) ?_
   refine wl_fieldAddr rfl fo_109_3 rfl ?_
   refine wl_guard rfl rfl (decide_eq_true h17) ?_
   refine wl_load rfl ag_9 (by first | assumption | exact hS16.cell 1 rfl rfl) rfl ?_
   refine wl_guard rfl rfl (decide_eq_true h17) ?_
   refine wl_lenS Tryz.underlying9 rfl rfl ?_
   refine wl_guard rfl rfl (decide_eq_true h17) ?_
   refine wl_move rfl rfl ?_
   refine wl_guard rfl rfl (decide_eq_true h17) ?_
   refine wl_lss rfl rfl rfl ?_
   refine wl_pickT rfl (decide_eq_true h17) rfl rfl ?_
   refine wl_nil (qs_seq ?_)
   refine wc_sub (L' := [(90, _), (8, _), (6, _)]) (.cons rfl (.cons rfl (.cons rfl .nil))) ?_
   refine wc_condD rfl (fun h18 => ?_) (fun h18 => ?_)
   ·refine wc_region (wl_assign rfl rfl (wl_nil (qs_seq (wc_seq (wc_seq (wc_region (wl_move rfl rfl ?_)))))))
    refine wl_neq rfl rfl rfl ?_
    refine wl_nil (qs_seq ?_)
    refine wc_condD rfl (fun h19 => ?_) (fun h19 => ?_)
    ·refine wc_seq (wc_region (wl_move rfl rfl (wl_assign rfl rfl (wl_assign rfl rfl (wl_nil (qs_seq (wc_ret (qs_then_ret ?_))))))))
     refine fin2 (.inr rfl) rfl rfl rfl ?_
     exact ⟨_, rfl, .inr ⟨(open_cut hE hSl (by omega)).1, by rw [(open_cut hE hSl (by omega)).2], hS16.pick [0, 2] rfl⟩⟩
    refine wc_skip (qs_seq (wc_seq (wc_region (wl_move rfl rfl (wl_assign rfl rfl (wl_assign rfl rfl (wl_nil (qs_seq (wc_ret ?_)))))))))
    refine fin2 (.inr rfl) rfl rfl rfl ?_
    exact absurd (by decide) h19
   refine wc_skip (qs_seq (wc_seq (wc_seq (wc_region (wl_move rfl rfl ?_)))))
   refine wl_neq rfl rfl rfl ?_
   refine wl_nil (qs_seq ?_)
   refine wc_condD rfl (fun h20 => ?_) (fun h20 => ?_)
   ·refine wc_seq (wc_region (wl_move rfl rfl (wl_assign rfl rfl (wl_assign rfl rfl (wl_nil (qs_seq (wc_ret (qs_then_ret ?_))))))))
    refine fin2 (.inr rfl) rfl rfl rfl ?_
    exact absurd rfl h20
   refine wc_skip (qs_seq (wc_seq (wc_region (wl_move rfl rfl (wl_assign rfl rfl (wl_assign rfl rfl (wl_nil (qs_seq (wc_ret ?_)))))))))
   refine fin2 (.inr rfl) rfl rfl rfl ?_
   exact ⟨_, rfl, .inl ⟨(open_ok hE hSl (by omega)).1, _, rfl, by rw [(open_ok hE hSl (by omega)).2]; exact hS16.pick [1, 0, 2] rfl⟩⟩
  refine wl_unwanted rfl rfl (decide_eq_false h17) rfl ?_
  refine wl_unwanted rfl rfl (decide_eq_false h17) rfl ?_
  refine wl_unwanted rfl rfl (decide_eq_false h17) rfl ?_
  refine wl_unwanted rfl rfl (decide_eq_false h17) rfl ?_
  refine wl_unwanted rfl rfl (decide_eq_false h17) rfl ?_
  refine wl_unwanted rfl rfl (decide_eq_false h17) rfl ?_
  refine wl_unwanted rfl rfl (decide_eq_false h17) rfl ?_
  refine wl_pickF rfl (decide_eq_false h17) rfl rfl ?_
  refine wl_nil (qs_seq ?_)
  refine wc_sub (L' := [(90, _), (8, _), (6, _)]) (.cons rfl (.cons rfl (.cons rfl .nil))) ?_
  refine wc_condF rfl ?_
  refine wc_skip (qs_seq (wc_seq (wc_seq (wc_region (wl_move rfl rfl ?_)))))
  refine wl_neq rfl rfl rfl ?_
  refine wl_nil (qs_seq ?_)
  refine wc_condD rfl (fun h21 => ?_) (fun h21 => ?_)
  ·refine wc_seq (wc_region (wl_move rfl rfl (wl_assign rfl rfl (wl_assign rfl rfl (wl_nil (qs_seq (wc_ret (qs_then_ret ?_))))))))
   refine fin2 (.inr rfl) rfl rfl rfl ?_
   exact absurd rfl h21
  refine wc_skip (qs_seq (wc_seq (wc_region (wl_move rfl rfl (wl_assign rfl rfl (wl_assign rfl rfl (wl_nil (qs_seq (wc_ret ?_)))))))))
  refine fin2 (.inr rfl) rfl rfl rfl ?_
  exact ⟨_, rfl, .inl ⟨(open_ok hE hSl (by omega)).1, _, rfl, by rw [(open_ok hE hSl (by omega)).2]; exact hS16.pick [1, 0, 2] rfl⟩⟩
 have h12 : b0 = 1 ∨ b0 = 2 := .inl (u8_eq (k := 1) (by omega) (Decidable.not_not.1 h7))
 refine wl_unwanted rfl rfl (decide_eq_false h7) rfl ?_
 refine wl_unwanted rfl rfl (decide_eq_false h7) rfl ?_
 refine wl_unwanted rfl rfl (decide_eq_false h7) rfl ?_
 refine wl_guard rfl rfl (decide_eq_false h6) ?_
 refine wl_pickF rfl (decide_eq_false h7) rfl rfl ?_
 refine wl_pickF rfl (decide_eq_false h6) rfl rfl ?_
 refine wl_nil (qs_seq ?_)
 refine wc_sub (L' := [(44, _), (8, _), (7, _), (6, _), (5, _), (4, _), (0, _), (1, _)]) (.cons rfl (.cons rfl (.cons rfl (.cons rfl (.cons rfl (.cons rfl (.cons rfl (.cons rfl .nil)))))))) ?_
 refine wc_condF rfl ?_
 refine wc_skip (qs_seq (wc_seq (wc_region (wl_assign rfl rfl (wl_nil (qs_seq (wc_seq (wc_seq (wc_region (wl_assign rfl rfl (wl_nil (qs_seq (wc_block ?_)))))))))))))
 refine wc_loop (fun K0 E0 W0 => ∃ (i : Nat), K0 = 1 * i ∧ E0 = [(0, ptrV p 0), (1, intV f), (6, ptrV b1 0), (7, strV [b0, b1_, b2, b3, b4]), (9, intV (acc b1_ b2 b3 b4 i : Nat)), (10, intV (i : Int))] ∧ Sat W0 [blkT b1 (cellV p (newC f)), dT p D, F] ∧ (i ≤ 4)) (L0 := [(0, _), (1, _), (6, _), (7, _), (9, _), (10, _)]) (4) (.cons rfl (.cons rfl (.cons rfl (.cons rfl (.cons rfl (.cons rfl .nil)))))) ⟨4, rfl, rfl, hS2.reorder [1, 0, 2] rfl, by omega⟩ ?_
 rintro _ _ w22 ⟨i, rfl, rfl, hS22, hi⟩
 refine wc_seq (wc_seq (wc_region (wl_move rfl rfl ?_)))
 refine wl_gtr rfl rfl rfl ?_
 refine wl_nil (qs_seq ?_)
 refine wc_condD rfl (fun h23 => ?_) (fun h23 => ?_)
 ·obtain ⟨c, hc⟩ : ∃ c, [b0, b1_, b2, b3, b4][i]? = some c := ⟨_, List.getElem?_eq_getElem (by simp; omega)⟩
  have hacc := acc_step (by omega) hi hc
  have hal := acc_lt2 (b1 := b1_) (b2 := b2) (b3 := b3) (b4 := b4) (show 0 < i by omega)
  have hcl := u8_lt c
  have hi1 : ((i - 1 : Nat) : Int) = (i : Int) - 1 := by omega
  refine wc_skip (qs_seq (wc_seq (wc_block (wc_region (wl_move rfl rfl ?_)))))
  refine wl_shl 8 rfl rfl rfl rfl (q := 256) rfl (by omega) (by omega) rfl ?_
  refine wl_move rfl rfl (wl_move rfl rfl ?_)
  refine wl_indexS _ Tryz.underlying9 rfl rfl (by first | rfl | omega) (by first | assumption | rfl) rfl ?_
  refine wl_convU8 Tryz.underlying5 Tryz.underlying3 rfl rfl ?_
  refine wl_or 8 (acc b1_ b2 b3 b4 i) rfl rfl (by first | rfl | omega) (by constructor <;> omega) (by omega) rfl ?_
  refine wl_assign rfl rfl (wl_nil (qs_block_normal (qs_seq ?_)))
  refine wc_sub (L' := [(9, _), (0, _), (1, _), (6, _), (7, _), (10, _)]) (.cons rfl (.cons rfl (.cons rfl (.cons rfl (.cons rfl (.cons rfl .nil)))))) ?_
  refine wc_region (wl_move rfl rfl ?_)
  refine wl_sub' rfl rfl (by omega) (by omega) rfl ?_
  refine wl_assign rfl rfl (wl_nil ?_)
  exact qs_round (L1 := [(0, _), (1, _), (6, _), (7, _), (9, intV ((acc b1_ b2 b3 b4 (i - 1) : Nat) : Int)), (10, intV ((i - 1 : Nat) : Int))]) (.cons rfl (.cons rfl (.cons rfl (.cons rfl (.cons (by rw [hacc]; rfl) (.cons (by rw [hi1]; rfl) .nil)))))) (k1 := 1 * (i - 1)) (by omega) ⟨i - 1, rfl, rfl, hS22, by omega⟩
 obtain rfl : i = 0 := by omega
 refine wc_exit (qs_then_exit (qs_then_exit (qs_block_exit (qs_seq (wc_seq (wc_seq (wc_region (wl_move rfl rfl ?_))))))))
 refine wl_gtr rfl rfl rfl ?_
 refine wl_nil (qs_seq ?_)
 refine wc_condD rfl (fun h24 => ?_) (fun h24 => ?_)
 ·refine wc_seq (wc_region (wl_assign rfl rfl (wl_assign rfl rfl (wl_nil (qs_seq ?_)))))
  refine wc_sub (L' := [(5, _), (4, _), (0, _), (1, _), (6, _), (7, _), (9, _)]) (.cons rfl (.cons rfl (.cons rfl (.cons rfl (.cons rfl (.cons rfl (.cons rfl .nil))))))) ?_
  refine wc_ret (qs_then_ret ?_)
  refine fin2 (.inr rfl) rfl rfl rfl ?_
  exact ⟨_, rfl, .inr ⟨(open_bad hE (by rw [← hH]; exact hdr_bad hb0 (by rw [← acc_end]; omega))).1, by rw [(open_bad hE (by rw [← hH]; exact hdr_bad hb0 (by rw [← acc_end]; omega))).2], hS22.pick [1, 2] rfl⟩⟩
 have hn : hdrN b1_ b2 b3 b4 ≤ 65536 := by rw [← acc_end]; omega
 have hSl : hdrOf (ReadS D f 0 5) = .slot b0.toNat (hdrN b1_ b2 b3 b4) := by rw [← hH]; exact hdr_ok h12 hn
 rw [acc_end]
 obtain ⟨n, hN⟩ : ∃ n, n = hdrN b1_ b2 b3 b4 := ⟨_, rfl⟩
 rw [← hN] at hSl hn ⊢
 have h12n : b0.toNat = 1 ∨ b0.toNat = 2 := by rcases h12 with rfl | rfl <;> simp
 refine wc_skip (qs_seq (wc_seq (wc_region (wl_move rfl rfl (wl_move rfl rfl ?_)))))
 refine wl_indexS _ Tryz.underlying9 rfl rfl (by first | rfl | omega) (by first | assumption | rfl) rfl ?_
 refine wl_convU8 Tryz.underlying5 Tryz.underlying3 rfl rfl ?_
 refine wl_nilCheck rfl rfl ?_
 refine wl_fieldAddr rfl fo_109_2 rfl ?_
 first | (refine wl_store hS22 rfl rfl sz_3 (by first | rfl | assumption) (i := 0) rfl (by first | decide | exact Nat.le_of_ble_eq_true rfl | (simp; done) | omega) ?_)
 intro w25 hS26; dsimp only [List.set] at hS26
 clear hS22
 refine wl_nil (qs_seq ?_)
 refine wc_sub (L' := [(0, _), (1, _), (6, _), (9, _)]) (.cons rfl (.cons rfl (.cons rfl (.cons rfl .nil)))) ?_
 refine wc_seq (wc_region (wl_move rfl rfl (wl_move rfl rfl (wl_move rfl rfl (wl_move rfl rfl (wl_nilCheck rfl rfl ?_))))))
 refine wl_fieldAddr rfl fo_109_2 rfl ?_
 refine wl_load rfl ag_3 (by first | assumption | exact hS26.cell 0 rfl rfl) rfl ?_
 refine wl_indexAddrA _ Tryz.underlying111 rfl rfl (by first | rfl | omega) (by omega) sz_3 rfl ?_
 have hg := (hG.sat hS26 2 rfl).off h12n
 refine wl_load rfl ag_3 (by first | assumption | exact hS26.cell 0 rfl rfl) rfl ?_
 refine wl_move rfl rfl ?_
 have hC27 := hS26.split [1] [false, true, false] rfl; dsimp only [selF, pickA, nthA, List.cons_append, List.nil_append] at hC27
 refine wl_call cal_31 rfl (dreadT hC27 f (slotOff b0.toNat) n) rfl ?_
 rintro e w27 ⟨_, rfl, rfl, hS27⟩; refine ⟨_, rfl, ?_⟩
 replace hS27 := hS27.join rfl; dsimp only [List.dropLast, List.cons_append, List.nil_append] at hS27; clear hC27
 clear hS26
 have hE2 : ReadE D f (slotOff b0.toNat) n = 0 := ReadE_same hE (slotOff_pos _) (by omega)
 rw [hE2]
 refine wl_move rfl rfl (wl_extract rfl rfl rfl (wl_extract rfl rfl rfl (wl_nilCheck rfl rfl ?_)))
 refine wl_fieldAddr rfl fo_109_3 rfl ?_
 first | (refine wl_store hS27 rfl rfl sz_9 (by first | rfl | assumption) (i := 1) rfl (by first | decide | exact Nat.le_of_ble_eq_true rfl | (simp; done) | omega) ?_)
 intro w28 hS29; dsimp only [List.set] at hS29
 clear hS27
 refine wl_assign rfl rfl (wl_nil ?_)
 have hE2 : ReadE D f (slotOff b0.toNat) n = 0 := ReadE_same hE (slotOff_pos _) (by omega)
 refine qs_seq ?_
 refine wc_sub (L' := [(8, _), (6, _), (9, _)]) (.cons rfl (.cons rfl (.cons rfl .nil))) ?_
 refine wc_seq (wc_seq (wc_region (wl_move rfl rfl ?_)))
 refine wl_eql rfl rfl rfl ?_
 refine wl_move rfl rfl ?_
 refine wl_splitD 82 rfl (fun h30 => ?_) (fun h30 => ?_)
 ·refine wl_guard rfl rfl (decide_eq_true h30) ?_
  refine wl_move rfl rfl ?_
  refine wl_guard rfl rfl (decide_eq_true h30) ?_
  refine wl_nilCheck rfl rfl ?_
  refine wl_guard rfl rfl (decide_eq_true h30) ?_
  refine wl_fieldAddr rfl fo_109_3 rfl ?_
  refine wl_guard rfl rfl (decide_eq_true h30) ?_
  refine wl_load rfl ag_9 (by first | assumption | exact hS29.cell 1 rfl rfl) rfl ?_
  refine wl_guard rfl rfl (decide_eq_true h30) ?_
  refine wl_lenS Tryz.underlying9 rfl rfl ?_
  refine wl_guard rfl rfl (decide_eq_true h30) ?_
  refine wl_move rfl rfl ?_
  refine wl_guard rfl rfl (decide_eq_true h30) ?_
  refine wl_lss rfl rfl rfl ?_
  refine wl_pickT rfl (decide_eq_true h30) rfl rfl ?_
  refine wl_nil (qs_seq ?_)
  refine wc_sub (L' := [(90, _), (8, _), (6, _)]) (.cons rfl (.cons rfl (.cons rfl .nil))) ?_
  refine wc_condD rfl (fun h31 => ?_) (fun h31 => ?_)
  ·refine wc_region (wl_assign rfl rfl (wl_nil (qs_seq (wc_seq (wc_seq (wc_region (wl_move rfl rfl ?_)))))))
   refine wl_neq rfl rfl rfl ?_
   refine wl_nil (qs_seq ?_)
   refine wc_condD rfl (fun h32 => ?_) (fun h32 => ?_)
   ·refine wc_seq (wc_region (wl_move rfl rfl (wl_assign rfl rfl (wl_assign rfl rfl (wl_nil (qs_seq (wc_ret (qs_then_ret ?_))))))))
    refine fin2 (.inr rfl) rfl rfl rfl ?_
    exact ⟨_, rfl, .inr ⟨(open_cut hE hSl (by omega)).1, by rw [(open_cut hE hSl (by omega)).2], hS29.pick [0, 2] rfl⟩⟩
   refine wc_skip (qs_seq (wc_seq (wc_region (wl_move rfl rfl (wl_assign rfl rfl (wl_assign rfl rfl (wl_nil (qs_seq (wc_ret ?_)))))))))
   refine fin2 (.inr rfl) rfl rfl rfl ?_
   exact absurd (by decide) h32
  refine wc_skip (qs_seq (wc_seq (wc_seq (wc_region (wl_move rfl rfl ?_)))))
  refine wl_neq rfl rfl rfl ?_
  refine wl_nil (qs_seq ?_)
  refine wc_condD rfl (fun h33 => ?_) (fun h33 => ?_)
  ·refine wc_seq (wc_region (wl_move rfl rfl (wl_assign rfl rfl (wl_assign rfl rfl (wl_nil (qs_seq (wc_ret (qs_then_ret ?_))))))))
   refine fin2 (.inr rfl) rfl rfl rfl ?_
   exact absurd rfl h33
  refine wc_skip (qs_seq (wc_seq (wc_region (wl_move rfl rfl (wl_assign rfl rfl (wl_assign rfl rfl (wl_nil (qs_seq (wc_ret ?_)))))))))
  refine fin2 (.inr rfl) rfl rfl rfl ?_
  exact ⟨_, rfl, .inl ⟨(open_ok hE hSl (by omega)).1, _, rfl, by rw [(open_ok hE hSl (by omega)).2]; exact hS29.pick [1, 0, 2] rfl⟩⟩
 refine wl_unwanted rfl rfl (decide_eq_false h30) rfl ?_
 refine wl_unwanted rfl rfl (decide_eq_false h30) rfl ?_
 refine wl_unwanted rfl rfl (decide_eq_false h30) rfl ?_
 refine wl_unwanted rfl rfl (decide_eq_false h30) rfl ?_
 refine wl_unwanted rfl rfl (decide_eq_false h30) rfl ?_
 refine wl_unwanted rfl rfl (decide_eq_false h30) rfl ?_
 refine wl_unwanted rfl rfl (decide_eq_false h30) rfl ?_
 refine wl_pickF rfl (decide_eq_false h30) rfl rfl ?_
 refine wl_nil (qs_seq ?_)
 refine wc_sub (L' := [(90, _), (8, _), (6, _)]) (.cons rfl (.cons rfl (.cons rfl .nil))) ?_
 refine wc_condF rfl ?_
 refine wc_skip (qs_seq (wc_seq (wc_seq (wc_region (wl_move rfl rfl ?_)))))
 refine wl_neq rfl rfl rfl ?_
 refine wl_nil (qs_seq ?_)
 refine wc_condD rfl (fun h34 => ?_) (fun h34 => ?_)
 ·refine wc_seq (wc_region (wl_move rfl rfl (wl_assign rfl rfl (wl_assign rfl rfl (wl_nil (qs_seq (wc_ret (qs_then_ret ?_))))))))
  refine fin2 (.inr rfl) rfl rfl rfl ?_
  exact absurd rfl h34
 refine wc_skip (qs_seq (wc_seq (wc_region (wl_move rfl rfl (wl_assign rfl rfl (wl_assign rfl rfl (wl_nil (qs_seq (wc_ret ?_)))))))))
 refine fin2 (.inr rfl) rfl rfl rfl ?_
 exact ⟨_, rfl, .inl ⟨(open_ok hE hSl (by omega)).1, _, rfl, by rw [(open_ok hE hSl (by omega)).2]; exact hS29.pick [1, 0, 2] rfl⟩⟩
end Go.Proofs.YtfmkodmmbgibgaaGreatDoor
