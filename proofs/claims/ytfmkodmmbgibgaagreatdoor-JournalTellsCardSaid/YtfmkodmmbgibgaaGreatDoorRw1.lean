/- reference 01: numbers as text -/
import Derived.Test.YtfmkodmmbgibgaaGreatDoorRefw
import Derived.Test.YtfmkodmmbgibgaaGreatDoorShelf
import Derived.Test.YtfmkodmmbgibgaaGreatDoorPw
namespace Go.Proofs.YtfmkodmmbgibgaaGreatDoor
open Go.RowKit M
set_option linter.unusedVariables false
theorem decDigits_len (u : Nat) (h : u < 10000000000000000000) : (Lib.decDigits u).length ≤ 19 := by rw [Lib.decDigits_length]; exact nDigits_le 18 u (by simpa using h)
set_option maxRecDepth 100000 in
theorem digits_sp (u : Nat) : ∀ {w : World} {F : Th}, Sat w [F] → u ≤ 9223372036854775808 → Calls Tryz.prog 102 #[intV (-(u : Int))] w (Ret fun v w' => v = strV (Lib.decDigits u) ∧ Sat w' [F]) := by
 induction u using Nat.strongRecOn with
 | _ u ih =>
 intro w F hS hu
 refine calls_enter Tryz.func102 rfl Tryz.ntmps102 rfl ?_
 refine wc_seq (wc_region (wl_assign rfl rfl (wl_nil (qs_seq (wc_seq (wc_region (wl_move rfl rfl ?_)))))))
 refine wl_remN rfl rfl (by omega) (by omega) rfl ?_
 refine wl_sub' rfl rfl (by first | omega | (simp; omega)) (by first | omega | (simp; omega)) rfl ?_
 refine wl_convToU8 (48 + u % 10) Tryz.underlying3 Tryz.underlying5 rfl (by first | rfl | omega) rfl ?_
 refine wl_rowBuild byC [UInt8.ofNat (48 + u % 10)] hS rfl Tryz.underlying118 ifz_5 rfl rfl rfl rfl (by first | rfl | simp [RowC.cells, fillL, splice]) rfl ?_
 intro b1 w1 hS1
 refine wl_rowStr 0 hS1 rfl rfl Tryz.underlying118 Tryz.underlying5 Tryz.underlying9 rfl ?_
 refine wl_assign rfl rfl (wl_nil (qs_seq (wc_seq (wc_seq (wc_region (wl_move rfl rfl ?_))))))
 refine wl_gtr rfl rfl rfl ?_
 refine wl_nil (qs_seq ?_)
 refine wc_sub (L' := [(11, _), (3, _), (2, _), (0, _)]) (.cons rfl (.cons rfl (.cons rfl (.cons rfl .nil)))) ?_
 refine wc_condD rfl (fun h2 => ?_) (fun h2 => ?_)
 ·refine wc_seq (wc_region (wl_move rfl rfl (wl_assign rfl rfl (wl_nil (qs_seq (wc_ret (qs_then_ret ?_)))))))
  refine fin1 (.inr rfl) rfl rfl ?_
  exact ⟨_, rfl, by rw [dig_one (by omega)], hS1.pick [1] rfl⟩
 refine wc_skip (qs_seq (wc_seq ?_))
 have hdl := decDigits_len (u / 10) (by omega)
 refine wc_region (wl_move rfl rfl ?_)
 refine wl_quoN rfl rfl (by omega) (by omega) (by omega) rfl ?_
 rw [show -(-(-(u : Int)) / 10) = -((u / 10 : Nat) : Int) by omega]
 have hC3 := hS1.split [] [false, false] rfl; dsimp only [selF, pickA, nthA, List.cons_append, List.nil_append] at hC3
 refine wl_call cal_102 rfl (ih (u / 10) (by omega) hC3 (by omega)) rfl ?_
 rintro e w3 ⟨_, rfl, rfl, hS3⟩; refine ⟨_, rfl, ?_⟩
 replace hS3 := hS3.join rfl; dsimp only [List.dropLast, List.cons_append, List.nil_append] at hS3; clear hC3
 clear hS1
 refine wl_move rfl rfl ?_
 refine wl_concat rfl rfl (by first | omega | (simp; omega)) rfl ?_
 refine wl_assign rfl rfl (wl_nil (qs_seq (wc_ret ?_)))
 refine fin1 (.inr rfl) rfl rfl ?_
 exact ⟨_, rfl, by rw [dig_step (u := u) (by omega)], hS3.pick [1] rfl⟩
theorem digits_sp' {w : World} {F : Th} (hS : Sat w [F]) (n : Int) (u : Nat) (hn : n = -(u : Int)) (hu : u ≤ 9223372036854775808) : Calls Tryz.prog 102 #[intV n] w (Ret fun v w' => v = strV (Lib.decDigits u) ∧ Sat w' [F]) := by subst hn; exact digits_sp u hS hu
theorem r1Int_sp {w : World} {F : Th} (hS : Sat w [F]) (n : Int) (hn : inI n) :
    Calls Tryz.prog 68 #[intV n] w (Ret fun v w' => v = strV (Lib.itoa n ++ [59]) ∧ Sat w' [F]) := by
 unfold inI at hn
 refine calls_enter Tryz.func68 rfl Tryz.ntmps68 rfl ?_
 refine wc_seq (wc_region (wl_assign rfl rfl (wl_nil (qs_seq (wc_seq (wc_seq (wc_region (wl_move rfl rfl ?_))))))))
 refine wl_lss rfl rfl rfl ?_
 refine wl_nil (qs_seq ?_)
 refine wc_condD rfl (fun h1 => ?_) (fun h1 => ?_)
 ·refine wc_seq (wc_region (wl_move rfl rfl ?_))
  have hC2 := hS.split [] [false] rfl; dsimp only [selF, pickA, nthA, List.cons_append, List.nil_append] at hC2
  refine wl_call cal_102 rfl (digits_sp' hC2 n n.natAbs (by omega) (by omega)) rfl ?_
  rintro e w2 ⟨_, rfl, rfl, hS2⟩; refine ⟨_, rfl, ?_⟩
  replace hS2 := hS2.join rfl; dsimp only [List.dropLast, List.cons_append, List.nil_append] at hS2; clear hC2
  have hdl := decDigits_len n.natAbs (by omega)
  refine wl_concat rfl rfl (by first | omega | (simp; omega)) rfl ?_
  refine wl_concat rfl rfl (by first | omega | (simp; omega)) rfl ?_
  refine wl_assign rfl rfl (wl_nil (qs_seq (wc_ret (qs_then_ret ?_))))
  refine fin1 (.inr rfl) rfl rfl ?_
  exact ⟨_, rfl, by rw [show Lib.itoa n = 45 :: Lib.decDigits n.natAbs by have h9 := Lib.itoa_neg n.natAbs (by omega); rwa [show -((n.natAbs : Nat) : Int) = n by omega] at h9]; rfl, hS2⟩
 refine wc_skip (qs_seq (wc_seq (wc_region (wl_move rfl rfl ?_))))
 refine wl_neg rfl (by first | omega | (simp; omega)) (by first | omega | (simp; omega)) rfl ?_
 have hC3 := hS.split [] [false] rfl; dsimp only [selF, pickA, nthA, List.cons_append, List.nil_append] at hC3
 refine wl_call cal_102 rfl (digits_sp' hC3 (-n) n.toNat (by omega) (by omega)) rfl ?_
 rintro e w3 ⟨_, rfl, rfl, hS3⟩; refine ⟨_, rfl, ?_⟩
 replace hS3 := hS3.join rfl; dsimp only [List.dropLast, List.cons_append, List.nil_append] at hS3; clear hC3
 have hdl := decDigits_len n.toNat (by omega)
 refine wl_concat rfl rfl (by first | omega | (simp; omega)) rfl ?_
 refine wl_assign rfl rfl (wl_nil (qs_seq (wc_ret ?_)))
 refine fin1 (.inr rfl) rfl rfl ?_
 exact ⟨_, rfl, by rw [show Lib.itoa n = Lib.decDigits n.toNat by rw [← Lib.itoa_nonneg, Int.toNat_of_nonneg (by omega)]], hS3⟩
theorem back_no {s : Bs} {j : Nat} {c : UInt8} (hj : fromB s ≤ j) (hc : s[j]? = some c) (h : c.toNat < 48 ∨ 57 < c.toNat ∨ 20 < j) : ∀ m, inI m → s ≠ Lib.itoa m := by
  rintro m hm rfl
  have h1 := itoa_digit hj hc
  have h2 := (itoa_len hm).1
  have h3 := (List.getElem?_eq_some_iff.1 hc).1
  omega
theorem back_cmp {s : Bs} : decide (Lib.itoa (backV s) ++ [59] = s ++ [59]) = decide (s = Lib.itoa (backV s)) := by
  congr 1; exact propext ⟨fun h => (List.append_cancel_right h).symm, fun h => by rw [← h]⟩
theorem back_yes {s : Bs} (h : decide (s = Lib.itoa (backV s)) = false) : ∀ m, inI m → s ≠ Lib.itoa m := by
  rintro m hm rfl
  rw [backV_itoa hm] at h
  simp at h
theorem backS_next {s : Bs} {f j : Nat} {c : UInt8} (h : f ≤ j) (hc : s[j]? = some c) : backS 0 ((s.drop f).take (j + 1 - f)) = IntKind.i64.wrap (IntKind.i64.wrap (10 * backS 0 ((s.drop f).take (j - f))) - ((c.toNat : Int) - 48)) := by
  rw [show j + 1 - f = (j - f) + 1 by omega, List.take_add_one, List.getElem?_drop, show f + (j - f) = j by omega, hc]
  exact backS_snoc _ _
theorem fromB_le (s : Bs) : fromB s ≤ s.length := by
  unfold fromB; split
  · rename_i h; have := (List.getElem?_eq_some_iff.1 h).1; omega
  · omega
theorem fromB_le1 (s : Bs) : fromB s ≤ 1 := by unfold fromB; split <;> omega
set_option maxRecDepth 100000 in
theorem back_sp {w : World} {F : Th} (hS : Sat w [F]) (s : Bs) (hs : s.length ≤ 1000) :
    Calls Tryz.prog 121 #[strV s] w (Ret fun v w' => ∃ n ok, v = .tuple #[intV n, .bool ok] ∧ inI n ∧ (ok = true → s = Lib.itoa n) ∧ (ok = false → ∀ m, inI m → s ≠ Lib.itoa m) ∧ Sat w' [F]) := by
 refine calls_enter Tryz.func121 rfl Tryz.ntmps121 rfl ?_
 refine wc_seq (wc_region (wl_assign rfl rfl (wl_assign rfl rfl (wl_nil (qs_seq (wc_seq (wc_region (wl_assign rfl rfl (wl_nil (qs_seq ?_))))))))))
 refine wc_mid (fun E0 W0 => E0 = [(0, strV s), (4, intV (fromB s : Int))] ∧ Sat W0 [F]) ?_ ?_
 ·refine wc_seq (wc_region (wl_move rfl rfl ?_))
  refine wl_lenS Tryz.underlying9 rfl rfl ?_
  refine wl_gtr rfl rfl rfl ?_
  refine wl_move rfl rfl ?_
  refine wl_splitD 10 rfl (fun h2 => ?_) (fun h2 => ?_)
  ·obtain ⟨c0, hc0⟩ : ∃ c, s[0]? = some c := ⟨_, List.getElem?_eq_getElem (by omega)⟩
   refine wl_guard rfl rfl (decide_eq_true h2) ?_
   refine wl_move rfl rfl ?_
   refine wl_guard rfl rfl (decide_eq_true h2) ?_
   refine wl_indexS 0 Tryz.underlying9 rfl rfl (by first | rfl | omega) hc0 rfl ?_
   refine wl_guard rfl rfl (decide_eq_true h2) ?_
   refine wl_eql rfl rfl rfl ?_
   refine wl_pickT rfl (decide_eq_true h2) rfl rfl ?_
   refine wl_nil (qs_seq ?_)
   refine wc_sub (L' := [(14, _), (4, _), (3, _), (2, _), (0, _)]) (.cons rfl (.cons rfl (.cons rfl (.cons rfl (.cons rfl .nil))))) ?_
   refine wc_condD rfl (fun h3 => ?_) (fun h3 => ?_)
   ·refine wc_region (wl_assign rfl rfl (wl_nil ?_))
    have hf : fromB s = 1 := by unfold fromB; rw [hc0, if_pos (by congr 1; exact UInt8.toNat_inj.1 (show c0.toNat = 45 by omega))]
    exact qs_mid (L' := [(0, strV s), (4, intV 1)]) (.cons rfl (.cons rfl .nil)) ⟨by rw [hf]; rfl, hS⟩
   refine wc_skip ?_
   have hf : fromB s = 0 := by unfold fromB; rw [hc0, if_neg (by intro q; injection q with q; subst q; exact absurd rfl (by assumption))]
   exact qs_mid (L' := [(0, strV s), (4, intV 0)]) (.cons rfl (.cons rfl .nil)) ⟨by rw [hf]; rfl, hS⟩
  refine wl_unwanted rfl rfl (decide_eq_false h2) rfl ?_
  refine wl_unwanted rfl rfl (decide_eq_false h2) rfl ?_
  refine wl_unwanted rfl rfl (decide_eq_false h2) rfl ?_
  refine wl_pickF rfl (decide_eq_false h2) rfl rfl ?_
  refine wl_nil (qs_seq ?_)
  refine wc_sub (L' := [(14, _), (4, _), (3, _), (2, _), (0, _)]) (.cons rfl (.cons rfl (.cons rfl (.cons rfl (.cons rfl .nil))))) ?_
  refine wc_condF rfl ?_
  refine wc_skip ?_
  have hf : fromB s = 0 := by unfold fromB; rw [List.getElem?_eq_none (by omega)]; rfl
  exact qs_mid (L' := [(0, strV s), (4, intV 0)]) (.cons rfl (.cons rfl .nil)) ⟨by rw [hf]; rfl, hS⟩
 rintro _ w1 ⟨rfl, hS1⟩
 refine wc_seq (wc_region (wl_assign rfl rfl (wl_nil (qs_seq (wc_seq (wc_seq (wc_region (wl_move rfl rfl (wl_assign rfl rfl (wl_nil (qs_seq (wc_block ?_))))))))))))
 refine wc_loop (fun K0 E0 W0 => ∃ (j : Nat), K0 = s.length - j ∧ E0 = [(0, strV s), (4, intV (fromB s : Int)), (5, intV (backS 0 ((s.drop (fromB s)).take (j - fromB s)))), (6, intV (j : Int))] ∧ Sat W0 [F] ∧ (fromB s ≤ j ∧ j ≤ s.length)) (L0 := [(0, _), (4, _), (5, _), (6, _)]) (s.length - fromB s) (.cons rfl (.cons rfl (.cons rfl (.cons rfl .nil)))) ⟨fromB s, rfl, by rw [Nat.sub_self]; rfl, hS1, by have : fromB s ≤ s.length := fromB_le s; omega⟩ ?_
 rintro _ _ w4 ⟨j, rfl, rfl, hS4, hj⟩
 refine wc_seq (wc_seq (wc_region (wl_move rfl rfl (wl_move rfl rfl ?_))))
 refine wl_lenS Tryz.underlying9 rfl rfl ?_
 refine wl_lss rfl rfl rfl ?_
 refine wl_nil (qs_seq ?_)
 refine wc_condD rfl (fun h5 => ?_) (fun h5 => ?_)
 ·obtain ⟨ch, hch⟩ : ∃ c, s[j]? = some c := ⟨_, List.getElem?_eq_getElem (by omega)⟩
  have hch256 := ch.toNat_lt
  refine wc_skip (qs_seq (wc_seq (wc_block (wc_seq (wc_seq (wc_region (wl_move rfl rfl (wl_move rfl rfl ?_))))))))
  refine wl_indexS j Tryz.underlying9 rfl rfl (by first | rfl | omega) hch rfl ?_
  refine wl_lss rfl rfl rfl ?_
  refine wl_move rfl rfl ?_
  refine wl_splitD 26 rfl (fun h6 => ?_) (fun h6 => ?_)
  ·refine wl_unwanted rfl rfl (decide_eq_true h6) rfl ?_
   refine wl_unwanted rfl rfl (decide_eq_true h6) rfl ?_
   refine wl_unwanted rfl rfl (decide_eq_true h6) rfl ?_
   refine wl_unwanted rfl rfl (decide_eq_true h6) rfl ?_
   refine wl_pickT rfl (decide_eq_true h6) rfl rfl ?_
   refine wl_move rfl rfl ?_
   refine wl_unwanted rfl rfl rfl rfl ?_
   refine wl_unwanted rfl rfl rfl rfl ?_
   refine wl_pickT rfl rfl rfl rfl ?_
   refine wl_nil (qs_seq ?_)
   refine wc_sub (L' := [(35, _), (0, _), (4, _), (5, _), (6, _)]) (.cons rfl (.cons rfl (.cons rfl (.cons rfl (.cons rfl .nil))))) ?_
   refine wc_condT rfl ?_
   refine wc_seq (wc_region (wl_assign rfl rfl (wl_assign rfl rfl (wl_nil (qs_seq (wc_ret (qs_then_ret (qs_block_ret (qs_then_ret (qs_then_ret (qs_block_ret (qs_then_ret ?_))))))))))))
   refine fin2 (.inr rfl) rfl rfl rfl ?_
   exact ⟨_, rfl, 0, false, rfl, by unfold inI; omega, (fun q => by cases q), (fun _ => back_no hj.1 hch (by omega)), hS4⟩
  refine wl_guard rfl rfl (decide_eq_false h6) ?_
  refine wl_move rfl rfl ?_
  refine wl_guard rfl rfl (decide_eq_false h6) ?_
  refine wl_move rfl rfl ?_
  refine wl_guard rfl rfl (decide_eq_false h6) ?_
  refine wl_indexS j Tryz.underlying9 rfl rfl (by first | rfl | omega) hch rfl ?_
  refine wl_guard rfl rfl (decide_eq_false h6) ?_
  refine wl_gtr rfl rfl rfl ?_
  refine wl_pickF rfl (decide_eq_false h6) rfl rfl ?_
  refine wl_move rfl rfl ?_
  refine wl_splitD 32 rfl (fun h7 => ?_) (fun h7 => ?_)
  ·refine wl_unwanted rfl rfl (decide_eq_true h7) rfl ?_
   refine wl_unwanted rfl rfl (decide_eq_true h7) rfl ?_
   refine wl_pickT rfl (decide_eq_true h7) rfl rfl ?_
   refine wl_nil (qs_seq ?_)
   refine wc_sub (L' := [(35, _), (0, _), (4, _), (5, _), (6, _)]) (.cons rfl (.cons rfl (.cons rfl (.cons rfl (.cons rfl .nil))))) ?_
   refine wc_condT rfl ?_
   refine wc_seq (wc_region (wl_assign rfl rfl (wl_assign rfl rfl (wl_nil (qs_seq (wc_ret (qs_then_ret (qs_block_ret (qs_then_ret (qs_then_ret (qs_block_ret (qs_then_ret ?_))))))))))))
   refine fin2 (.inr rfl) rfl rfl rfl ?_
   exact ⟨_, rfl, 0, false, rfl, by unfold inI; omega, (fun q => by cases q), (fun _ => back_no hj.1 hch (by omega)), hS4⟩
  refine wl_guard rfl rfl (decide_eq_false h7) ?_
  refine wl_move rfl rfl ?_
  refine wl_guard rfl rfl (decide_eq_false h7) ?_
  refine wl_gtr rfl rfl rfl ?_
  refine wl_pickF rfl (decide_eq_false h7) rfl rfl ?_
  refine wl_nil (qs_seq ?_)
  refine wc_sub (L' := [(35, _), (0, _), (4, _), (5, _), (6, _)]) (.cons rfl (.cons rfl (.cons rfl (.cons rfl (.cons rfl .nil))))) ?_
  refine wc_condD rfl (fun h8 => ?_) (fun h8 => ?_)
  ·refine wc_seq (wc_region (wl_assign rfl rfl (wl_assign rfl rfl (wl_nil (qs_seq (wc_ret (qs_then_ret (qs_block_ret (qs_then_ret (qs_then_ret (qs_block_ret (qs_then_ret ?_))))))))))))
   refine fin2 (.inr rfl) rfl rfl rfl ?_
   exact ⟨_, rfl, 0, false, rfl, by unfold inI; omega, (fun q => by cases q), (fun _ => back_no hj.1 hch (by omega)), hS4⟩
  refine wc_skip (qs_seq (wc_region (wl_move rfl rfl ?_)))
  refine wl_mulW rfl rfl rfl rfl ?_
  refine wl_move rfl rfl (wl_move rfl rfl ?_)
  refine wl_indexS j Tryz.underlying9 rfl rfl (by first | rfl | omega) hch rfl ?_
  refine wl_subW (c := ((UInt8.ofNat (ch.toNat - 48)).toNat : Int)) rfl rfl (by rw [show IntKind.u8.wrap ((ch.toNat : Int) - 48) = ((ch.toNat : Int) - 48) % 256 by simp [IntKind.wrap, IntKind.signed, IntKind.bits]]; simp; omega) rfl ?_
  refine wl_convU8 Tryz.underlying5 Tryz.underlying3 rfl rfl ?_
  refine wl_subW rfl rfl rfl rfl ?_
  refine wl_assign rfl rfl (wl_nil (qs_block_normal (qs_seq ?_)))
  refine wc_sub (L' := [(5, _), (0, _), (4, _), (6, _)]) (.cons rfl (.cons rfl (.cons rfl (.cons rfl .nil)))) ?_
  refine wc_region (wl_move rfl rfl ?_)
  refine wl_add rfl rfl (by first | omega | (simp; omega)) (by first | omega | (simp; omega)) rfl ?_
  refine wl_assign rfl rfl (wl_nil ?_)
  exact qs_round (L1 := [(0, _), (4, _), (5, _), (6, intV ((j + 1 : Nat) : Int))]) (.cons rfl (.cons rfl (.cons rfl (.cons rfl .nil)))) (k1 := s.length - (j + 1)) (by omega) ⟨j + 1, rfl, by congr 1; rw [backS_next (by omega) hch]; simp only [show ((UInt8.ofNat (ch.toNat - 48)).toNat : Int) = (ch.toNat : Int) - 48 by simp; omega], hS4, by omega⟩
 refine wc_exit (qs_then_exit (qs_then_exit (qs_block_exit (qs_seq (wc_seq (wc_seq (wc_region (wl_move rfl rfl ?_))))))))
 refine wl_eql rfl rfl rfl ?_
 refine wl_nil (qs_seq ?_)
 refine wc_condD rfl (fun h9 => ?_) (fun h9 => ?_)
 ·refine wc_region (wl_move rfl rfl ?_)
  refine wl_negW rfl rfl ?_
  refine wl_assign rfl rfl (wl_nil (qs_seq ?_))
  refine wc_sub (L' := [(5, _), (0, _)]) (.cons rfl (.cons rfl .nil)) ?_
  refine wc_seq ?_
  have hbv : IntKind.i64.wrap (-(backS 0 ((s.drop (fromB s)).take (j - fromB s)))) = backV s := by unfold backV; rw [if_pos (by omega), show fromB s = 0 by omega, List.drop_zero, Nat.sub_zero, List.take_of_length_le (by omega)]
  rw [hbv]
  refine wc_region (wl_move rfl rfl (wl_move rfl rfl ?_))
  have hC10 := hS4.split [] [false] rfl; dsimp only [selF, pickA, nthA, List.cons_append, List.nil_append] at hC10
  refine wl_call cal_68 rfl (r1Int_sp hC10 (backV s) (backV_in s)) rfl ?_
  rintro e w10 ⟨_, rfl, rfl, hS10⟩; refine ⟨_, rfl, ?_⟩
  replace hS10 := hS10.join rfl; dsimp only [List.dropLast, List.cons_append, List.nil_append] at hS10; clear hC10
  clear hS4
  refine wl_move rfl rfl ?_
  refine wl_concat rfl rfl (by first | omega | (simp; omega)) rfl ?_
  refine wl_eqlS rfl rfl rfl ?_
  refine wl_assign rfl rfl (wl_assign rfl rfl (wl_nil (qs_seq (wc_ret ?_))))
  refine fin2 (.inr rfl) rfl rfl rfl ?_
  exact ⟨_, rfl, backV s, _, by rw [back_cmp], backV_in s, (fun q => of_decide_eq_true q), (fun q => back_yes q), hS10⟩
 refine wc_skip (qs_seq (wc_seq ?_))
 have hbv : backS 0 ((s.drop (fromB s)).take (j - fromB s)) = backV s := by have h1 := fromB_le1 s; unfold backV; rw [if_neg (by omega), show fromB s = 1 by omega, List.take_of_length_le (by simp; omega)]
 rw [hbv]
 refine wc_region (wl_move rfl rfl (wl_move rfl rfl ?_))
 have hC11 := hS4.split [] [false] rfl; dsimp only [selF, pickA, nthA, List.cons_append, List.nil_append] at hC11
 refine wl_call cal_68 rfl (r1Int_sp hC11 (backV s) (backV_in s)) rfl ?_
 rintro e w11 ⟨_, rfl, rfl, hS11⟩; refine ⟨_, rfl, ?_⟩
 replace hS11 := hS11.join rfl; dsimp only [List.dropLast, List.cons_append, List.nil_append] at hS11; clear hC11
 clear hS4
 refine wl_move rfl rfl ?_
 refine wl_concat rfl rfl (by first | omega | (simp; omega)) rfl ?_
 refine wl_eqlS rfl rfl rfl ?_
 refine wl_assign rfl rfl (wl_assign rfl rfl (wl_nil (qs_seq ?_)))
 refine wc_sub (L' := [(3, _), (2, _)]) (.cons rfl (.cons rfl .nil)) ?_
 refine wc_ret ?_
 refine fin2 (.inr rfl) rfl rfl rfl ?_
 exact ⟨_, rfl, backV s, _, by rw [back_cmp], backV_in s, (fun q => of_decide_eq_true q), (fun q => back_yes q), hS11⟩
end Go.Proofs.YtfmkodmmbgibgaaGreatDoor
/- reference 01: the reader -/
namespace Go.Proofs.YtfmkodmmbgibgaaGreatDoor
open Go.RowKit M
set_option linter.unusedVariables false
theorem r1Open_sp {w : World} {F : Th} (hS : Sat w [F]) (s : Bs) :
    Calls Tryz.prog 66 #[strV s] w (Ret fun v w' => ∃ b, v = ptrV b 0 ∧ Sat w' [readT b (s, false), F]) := by
 refine calls_enter Tryz.func66 rfl Tryz.ntmps66 rfl ?_
 refine wc_seq (wc_region (wl_assign rfl rfl (wl_nil (qs_seq (wc_seq (wc_region (wl_move rfl rfl ?_)))))))
 refine wl_buildS rfl pl_140_0 asz_140 zr_140 rfl rfl ?_
 refine wl_box hS rfl rfl rfl ?_
 intro b1 w1 hS1
 refine wl_assign rfl rfl (wl_nil (qs_seq (wc_ret ?_)))
 refine fin1 (.inr rfl) rfl rfl ?_
 exact ⟨_, rfl, _, rfl, hS1⟩
theorem r1Fail_sp {w : World} {F : Th} {b : Nat} {s : Bs × Bool} (hS : Sat w [readT b s, F]) :
    Calls Tryz.prog 120 #[ptrV b 0] w (Ret fun v w' => v = intV 0 ∧ Sat w' [readT b ([], true), F]) := by
 refine calls_enter Tryz.func120 rfl Tryz.ntmps120 rfl ?_
 refine wc_seq (wc_region (wl_assign rfl rfl (wl_nil (qs_seq (wc_seq (wc_region (wl_move rfl rfl (wl_nilCheck rfl rfl ?_))))))))
 refine wl_fieldAddr rfl fo_140_0 rfl ?_
 first | (refine wl_store hS rfl rfl sz_9 (by first | rfl | assumption) (i := 0) rfl (by first | decide | exact Nat.le_of_ble_eq_true rfl | (simp; done) | omega) ?_)
 intro w1 hS2; dsimp only [List.set] at hS2
 refine wl_nil (qs_seq (wc_seq (wc_region (wl_move rfl rfl (wl_nilCheck rfl rfl ?_)))))
 refine wl_fieldAddr rfl fo_140_1 rfl ?_
 first | (refine wl_store hS2 rfl rfl sz_4 (by first | rfl | assumption) (i := 0) rfl (by first | decide | exact Nat.le_of_ble_eq_true rfl | (simp; done) | omega) ?_)
 intro w3 hS4; dsimp only [List.set] at hS4
 clear hS2
 refine wl_nil (qs_seq (wc_seq (wc_region (wl_assign rfl rfl (wl_nil (qs_seq (wc_ret ?_)))))))
 refine fin1 (.inr rfl) rfl rfl ?_
 exact ⟨_, rfl, rfl, hS4⟩
theorem ahead_far {e : UInt8} {r : Bs} {k : Nat} (hno : ∀ j, j < k → r[j]? ≠ some e) (h : r.length ≤ k ∨ 21 ≤ k ∨ (20 < k + 1 ∧ ∃ c, r[k]? = some c ∧ c ≠ e ∧ 21 ≤ k)) : numP e (-9223372036854775808) r = none := by
  refine numP_far fun j hj => ?_
  by_cases hjk : j < k
  · exact hno j hjk
  · rcases h with h | h | h
    · rw [List.getElem?_eq_none (by omega)]; simp
    · omega
    · omega
theorem ahead_bad {e : UInt8} {r : Bs} {k : Nat} (he : 57 < e.toNat) (hno : ∀ j, j < k → r[j]? ≠ some e) (hk : r[k]? = some e) (h : ∀ m, inI m → r.take k ≠ Lib.itoa m) : numP e (-9223372036854775808) r = none := by
  cases hq : numP e (-9223372036854775808) r with
  | none => rfl
  | some x =>
    obtain ⟨m, r'⟩ := x
    obtain ⟨h1, _, h2⟩ := numP_first he hno hk hq
    exact absurd h1 (h m h2)
set_option maxRecDepth 100000 in
theorem ahead_sp {w : World} {F : Th} {b : Nat} {s : Bs × Bool} (hS : Sat w [readT b s, F]) (e : UInt8) (he : 57 < e.toNat) (hrl : s.1.length ≤ 9223372036854775806) :
    Calls Tryz.prog 101 #[ptrV b 0, byteV e] w (Ret fun v w' => v = intV (numV e (-9223372036854775808) s) ∧ Sat w' [readT b (numR e (-9223372036854775808) s), F]) := by
 obtain ⟨r, q⟩ := s
 dsimp only at hrl
 change Sat w [blkT b [strV r, .bool q], F] at hS
 refine calls_enter Tryz.func101 rfl Tryz.ntmps101 rfl ?_
 refine wc_seq (wc_region (wl_assign rfl rfl (wl_nil (qs_seq (wc_seq (wc_region (wl_assign rfl rfl (wl_nil (qs_seq (wc_seq (wc_block ?_)))))))))))
 refine wc_loop (fun K0 E0 W0 => ∃ (k : Nat), K0 = 21 - k ∧ E0 = [(0, ptrV b 0), (1, byteV e), (5, intV (k : Int))] ∧ Sat W0 [blkT b [strV r, .bool q], F] ∧ (k ≤ 21 ∧ k ≤ r.length) ∧ (∀ j, j < k → r[j]? ≠ some e)) (L0 := [(0, _), (1, _), (5, _)]) (21 - 0) (.cons rfl (.cons rfl (.cons rfl .nil))) ⟨0, rfl, rfl, hS, by omega, by omega⟩ ?_
 rintro _ _ w1 ⟨k, rfl, rfl, hS1, hk, hno⟩
 refine wc_seq (wc_seq (wc_region (wl_move rfl rfl (wl_move rfl rfl (wl_nilCheck rfl rfl ?_)))))
 refine wl_fieldAddr rfl fo_140_0 rfl ?_
 refine wl_load rfl ag_9 (by first | assumption | exact hS1.cell 0 rfl rfl) rfl ?_
 refine wl_lenS Tryz.underlying9 rfl rfl ?_
 refine wl_lss rfl rfl rfl ?_
 refine wl_move rfl rfl ?_
 refine wl_splitD 15 rfl (fun h2 => ?_) (fun h2 => ?_)
 ·obtain ⟨ch, hck⟩ : ∃ c, r[k]? = some c := ⟨_, List.getElem?_eq_getElem (by omega)⟩
  refine wl_guard rfl rfl (decide_eq_true h2) ?_
  refine wl_move rfl rfl ?_
  refine wl_guard rfl rfl (decide_eq_true h2) ?_
  refine wl_lss rfl rfl rfl ?_
  refine wl_pickT rfl (decide_eq_true h2) rfl rfl ?_
  refine wl_move rfl rfl ?_
  refine wl_splitD 19 rfl (fun h3 => ?_) (fun h3 => ?_)
  ·refine wl_guard rfl rfl (decide_eq_true h3) ?_
   refine wl_move rfl rfl ?_
   refine wl_guard rfl rfl (decide_eq_true h3) ?_
   refine wl_nilCheck rfl rfl ?_
   refine wl_guard rfl rfl (decide_eq_true h3) ?_
   refine wl_fieldAddr rfl fo_140_0 rfl ?_
   refine wl_guard rfl rfl (decide_eq_true h3) ?_
   refine wl_load rfl ag_9 (by first | assumption | exact hS1.cell 0 rfl rfl) rfl ?_
   refine wl_guard rfl rfl (decide_eq_true h3) ?_
   refine wl_move rfl rfl ?_
   refine wl_guard rfl rfl (decide_eq_true h3) ?_
   refine wl_indexS k Tryz.underlying9 rfl rfl (by first | rfl | omega) hck rfl ?_
   refine wl_guard rfl rfl (decide_eq_true h3) ?_
   refine wl_move rfl rfl ?_
   refine wl_guard rfl rfl (decide_eq_true h3) ?_
   refine wl_neq rfl rfl rfl ?_
   refine wl_pickT rfl (decide_eq_true h3) rfl rfl ?_
   refine wl_nil (qs_seq ?_)
   refine wc_sub (L' := [(28, _), (0, _), (1, _), (5, _)]) (.cons rfl (.cons rfl (.cons rfl (.cons rfl .nil)))) ?_
   refine wc_condD rfl (fun h4 => ?_) (fun h4 => ?_)
   ·refine wc_skip (qs_seq (wc_block (wc_region (wl_move rfl rfl ?_))))
    refine wl_add rfl rfl (by omega) (by omega) rfl ?_
    refine wl_assign rfl rfl (wl_nil (qs_block_normal ?_))
    exact qs_round (L1 := [(0, _), (1, _), (5, intV ((k + 1 : Nat) : Int))]) (.cons rfl (.cons rfl (.cons rfl .nil))) (k1 := 21 - (k + 1)) (by omega) ⟨k + 1, rfl, rfl, hS1, by omega, fun j hj => by by_cases ej : j = k; (subst ej; rw [hck]; intro qe; injection qe with qe; subst qe; exact absurd rfl (by assumption)); exact hno j (by omega)⟩
   refine wc_exit (qs_then_exit (qs_then_exit (qs_block_exit (qs_seq (wc_seq (wc_seq (wc_region (wl_move rfl rfl (wl_move rfl rfl (wl_nilCheck rfl rfl ?_))))))))))
   refine wl_fieldAddr rfl fo_140_0 rfl ?_
   refine wl_load rfl ag_9 (by first | assumption | exact hS1.cell 0 rfl rfl) rfl ?_
   refine wl_lenS Tryz.underlying9 rfl rfl ?_
   refine wl_geq rfl rfl rfl ?_
   refine wl_nil (qs_seq ?_)
   refine wc_sub (L' := [(37, _), (0, _), (1, _), (5, _)]) (.cons rfl (.cons rfl (.cons rfl (.cons rfl .nil)))) ?_
   refine wc_condD rfl (fun h5 => ?_) (fun h5 => ?_)
   ·exact absurd h5 (by omega)
   obtain ⟨ch2, hc2⟩ : ∃ c, r[k]? = some c := ⟨_, List.getElem?_eq_getElem (by omega)⟩
   refine wc_skip (qs_seq (wc_seq (wc_seq (wc_region (wl_move rfl rfl (wl_nilCheck rfl rfl ?_))))))
   refine wl_fieldAddr rfl fo_140_0 rfl ?_
   refine wl_load rfl ag_9 (by first | assumption | exact hS1.cell 0 rfl rfl) rfl ?_
   refine wl_move rfl rfl ?_
   refine wl_indexS k Tryz.underlying9 rfl rfl (by first | rfl | omega) hc2 rfl ?_
   refine wl_move rfl rfl ?_
   refine wl_neq rfl rfl rfl ?_
   refine wl_nil (qs_seq ?_)
   refine wc_sub (L' := [(47, _), (0, _), (5, _)]) (.cons rfl (.cons rfl (.cons rfl .nil))) ?_
   refine wc_condD rfl (fun h6 => ?_) (fun h6 => ?_)
   ·(rw [hck] at hc2; cases hc2; exact absurd h6 (by omega))
   have hce : r[k]? = some e := by have hq9 := UInt8.toNat_inj.1 (show ch2.toNat = e.toNat by omega); rw [hc2, hq9]
   refine wc_skip (qs_seq (wc_seq (wc_region (wl_move rfl rfl (wl_nilCheck rfl rfl ?_)))))
   refine wl_fieldAddr rfl fo_140_0 rfl ?_
   refine wl_load rfl ag_9 (by first | assumption | exact hS1.cell 0 rfl rfl) rfl ?_
   refine wl_move rfl rfl ?_
   refine wl_sliceS 0 k Tryz.underlying9 rfl (bndN _) (bndS k _ rfl rfl) (by omega) (by omega) rfl ?_
   rw [List.drop_zero]
   have hC7 := hS1.split [] [false, false] rfl; dsimp only [selF, pickA, nthA, List.cons_append, List.nil_append] at hC7
   refine wl_call cal_121 rfl (back_sp hC7 (r.take k) (by simp; omega)) rfl ?_
   rintro e w7 ⟨_, rfl, vn, ok, rfl, hvi, hok, hbad, hS7⟩; refine ⟨_, rfl, ?_⟩
   replace hS7 := hS7.join rfl; dsimp only [List.dropLast, List.cons_append, List.nil_append] at hS7; clear hC7
   clear hS1
   refine wl_move rfl rfl (wl_extract rfl rfl rfl (wl_extract rfl rfl rfl (wl_assign rfl rfl (wl_assign rfl rfl (wl_nil (qs_seq ?_))))))
   refine wc_sub (L' := [(7, _), (6, _), (0, _), (5, _)]) (.cons rfl (.cons rfl (.cons rfl (.cons rfl .nil)))) ?_
   refine wc_seq (wc_seq (wc_region (wl_move rfl rfl ?_)))
   refine wl_not rfl rfl ?_
   refine wl_nil (qs_seq ?_)
   refine wc_cond rfl (fun h8 => ?_) (fun h8 => ?_)
   ·refine wc_seq (wc_region (wl_move rfl rfl ?_))
    have hC9 := hS7.split [0] [true, false] rfl; dsimp only [selF, pickA, nthA, List.cons_append, List.nil_append] at hC9
    refine wl_call cal_120 rfl (r1Fail_sp (s := (r, q)) hC9) rfl ?_
    rintro e w9 ⟨_, rfl, rfl, hS9⟩; refine ⟨_, rfl, ?_⟩
    replace hS9 := hS9.join rfl; dsimp only [List.dropLast, List.cons_append, List.nil_append] at hS9; clear hC9
    clear hS7
    refine wl_assign rfl rfl (wl_nil (qs_seq (wc_ret (qs_then_ret ?_))))
    refine fin1 (.inr rfl) rfl rfl ?_
    have hnp := ahead_bad he hno hce (hbad (by simpa using (by assumption : (!ok) = true)))
    exact ⟨_, rfl, by rw [(num_none (s := (r, q)) hnp).1], by rw [(num_none (s := (r, q)) hnp).2]; exact hS9⟩
   refine wc_skip (qs_seq (wc_seq (wc_region (wl_move rfl rfl (wl_move rfl rfl (wl_nilCheck rfl rfl ?_))))))
   refine wl_fieldAddr rfl fo_140_0 rfl ?_
   refine wl_load rfl ag_9 (by first | assumption | exact hS7.cell 0 rfl rfl) rfl ?_
   refine wl_move rfl rfl ?_
   refine wl_add rfl rfl (by omega) (by omega) rfl ?_
   refine wl_sliceS (k + 1) r.length Tryz.underlying9 rfl (bndS (k + 1) _ rfl rfl) (bndN _) (by omega) (by omega) rfl ?_
   rw [List.take_length]
   refine wl_nilCheck rfl rfl ?_
   refine wl_fieldAddr rfl fo_140_0 rfl ?_
   first | (refine wl_store hS7 rfl rfl sz_9 (by first | rfl | assumption) (i := 0) rfl (by first | decide | exact Nat.le_of_ble_eq_true rfl | (simp; done) | omega) ?_)
   intro w10 hS11; dsimp only [List.set] at hS11
   clear hS7
   refine wl_nil (qs_seq ?_)
   refine wc_sub (L' := [(6, _)]) (.cons rfl .nil) ?_
   refine wc_seq (wc_region (wl_move rfl rfl (wl_assign rfl rfl (wl_nil (qs_seq (wc_ret ?_))))))
   refine fin1 (.inr rfl) rfl rfl ?_
   have hnp := numP_back (least := -9223372036854775808) he hce hvi hvi.1 (hok (by simpa using (by assumption : (!ok) = false)))
   exact ⟨_, rfl, by rw [(num_some (s := (r, q)) hnp).1], by rw [(num_some (s := (r, q)) hnp).2]; exact hS11⟩
  refine wl_unwanted rfl rfl (decide_eq_false h3) rfl ?_
  refine wl_unwanted rfl rfl (decide_eq_false h3) rfl ?_
  refine wl_unwanted rfl rfl (decide_eq_false h3) rfl ?_
  refine wl_unwanted rfl rfl (decide_eq_false h3) rfl ?_
  refine wl_unwanted rfl rfl (decide_eq_false h3) rfl ?_
  refine wl_unwanted rfl rfl (decide_eq_false h3) rfl ?_
  refine wl_unwanted rfl rfl (decide_eq_false h3) rfl ?_
  refine wl_unwanted rfl rfl (decide_eq_false h3) rfl ?_
  refine wl_pickF rfl (decide_eq_false h3) rfl rfl ?_
  refine wl_nil (qs_seq ?_)
  refine wc_sub (L' := [(28, _), (0, _), (1, _), (5, _)]) (.cons rfl (.cons rfl (.cons rfl (.cons rfl .nil)))) ?_
  refine wc_condF rfl ?_
  refine wc_exit (qs_then_exit (qs_then_exit (qs_block_exit (qs_seq (wc_seq (wc_seq (wc_region (wl_move rfl rfl (wl_move rfl rfl (wl_nilCheck rfl rfl ?_))))))))))
  refine wl_fieldAddr rfl fo_140_0 rfl ?_
  refine wl_load rfl ag_9 (by first | assumption | exact hS1.cell 0 rfl rfl) rfl ?_
  refine wl_lenS Tryz.underlying9 rfl rfl ?_
  refine wl_geq rfl rfl rfl ?_
  refine wl_nil (qs_seq ?_)
  refine wc_sub (L' := [(37, _), (0, _), (1, _), (5, _)]) (.cons rfl (.cons rfl (.cons rfl (.cons rfl .nil)))) ?_
  refine wc_condD rfl (fun h12 => ?_) (fun h12 => ?_)
  ·exact absurd h12 (by omega)
  obtain ⟨ch2, hc2⟩ : ∃ c, r[k]? = some c := ⟨_, List.getElem?_eq_getElem (by omega)⟩
  refine wc_skip (qs_seq (wc_seq (wc_seq (wc_region (wl_move rfl rfl (wl_nilCheck rfl rfl ?_))))))
  refine wl_fieldAddr rfl fo_140_0 rfl ?_
  refine wl_load rfl ag_9 (by first | assumption | exact hS1.cell 0 rfl rfl) rfl ?_
  refine wl_move rfl rfl ?_
  refine wl_indexS k Tryz.underlying9 rfl rfl (by first | rfl | omega) hc2 rfl ?_
  refine wl_move rfl rfl ?_
  refine wl_neq rfl rfl rfl ?_
  refine wl_nil (qs_seq ?_)
  refine wc_sub (L' := [(47, _), (0, _), (5, _)]) (.cons rfl (.cons rfl (.cons rfl .nil))) ?_
  refine wc_condD rfl (fun h13 => ?_) (fun h13 => ?_)
  ·refine wc_seq (wc_region (wl_move rfl rfl ?_))
   have hC14 := hS1.split [0] [true, false] rfl; dsimp only [selF, pickA, nthA, List.cons_append, List.nil_append] at hC14
   refine wl_call cal_120 rfl (r1Fail_sp (s := (r, q)) hC14) rfl ?_
   rintro e w14 ⟨_, rfl, rfl, hS14⟩; refine ⟨_, rfl, ?_⟩
   replace hS14 := hS14.join rfl; dsimp only [List.dropLast, List.cons_append, List.nil_append] at hS14; clear hC14
   clear hS1
   refine wl_assign rfl rfl (wl_nil (qs_seq (wc_ret (qs_then_ret ?_))))
   refine fin1 (.inr rfl) rfl rfl ?_
   have hnp := ahead_far hno (.inr (.inl (by omega)))
   exact ⟨_, rfl, by rw [(num_none (s := (r, q)) hnp).1], by rw [(num_none (s := (r, q)) hnp).2]; exact hS14⟩
  have hce : r[k]? = some e := by have hq9 := UInt8.toNat_inj.1 (show ch2.toNat = e.toNat by omega); rw [hc2, hq9]
  refine wc_skip (qs_seq (wc_seq (wc_region (wl_move rfl rfl (wl_nilCheck rfl rfl ?_)))))
  refine wl_fieldAddr rfl fo_140_0 rfl ?_
  refine wl_load rfl ag_9 (by first | assumption | exact hS1.cell 0 rfl rfl) rfl ?_
  refine wl_move rfl rfl ?_
  refine wl_sliceS 0 k Tryz.underlying9 rfl (bndN _) (bndS k _ rfl rfl) (by omega) (by omega) rfl ?_
  rw [List.drop_zero]
  have hC15 := hS1.split [] [false, false] rfl; dsimp only [selF, pickA, nthA, List.cons_append, List.nil_append] at hC15
  refine wl_call cal_121 rfl (back_sp hC15 (r.take k) (by simp; omega)) rfl ?_
  rintro e w15 ⟨_, rfl, vn, ok, rfl, hvi, hok, hbad, hS15⟩; refine ⟨_, rfl, ?_⟩
  replace hS15 := hS15.join rfl; dsimp only [List.dropLast, List.cons_append, List.nil_append] at hS15; clear hC15
  clear hS1
  refine wl_move rfl rfl (wl_extract rfl rfl rfl (wl_extract rfl rfl rfl (wl_assign rfl rfl (wl_assign rfl rfl (wl_nil (qs_seq ?_))))))
  refine wc_sub (L' := [(7, _), (6, _), (0, _), (5, _)]) (.cons rfl (.cons rfl (.cons rfl (.cons rfl .nil)))) ?_
  refine wc_seq (wc_seq (wc_region (wl_move rfl rfl ?_)))
  refine wl_not rfl rfl ?_
  refine wl_nil (qs_seq ?_)
  refine wc_cond rfl (fun h16 => ?_) (fun h16 => ?_)
  ·refine wc_seq (wc_region (wl_move rfl rfl ?_))
   have hC17 := hS15.split [0] [true, false] rfl; dsimp only [selF, pickA, nthA, List.cons_append, List.nil_append] at hC17
   refine wl_call cal_120 rfl (r1Fail_sp (s := (r, q)) hC17) rfl ?_
   rintro e w17 ⟨_, rfl, rfl, hS17⟩; refine ⟨_, rfl, ?_⟩
   replace hS17 := hS17.join rfl; dsimp only [List.dropLast, List.cons_append, List.nil_append] at hS17; clear hC17
   clear hS15
   refine wl_assign rfl rfl (wl_nil (qs_seq (wc_ret (qs_then_ret ?_))))
   refine fin1 (.inr rfl) rfl rfl ?_
   have hnp := ahead_bad he hno hce (hbad (by simpa using (by assumption : (!ok) = true)))
   exact ⟨_, rfl, by rw [(num_none (s := (r, q)) hnp).1], by rw [(num_none (s := (r, q)) hnp).2]; exact hS17⟩
  refine wc_skip (qs_seq (wc_seq (wc_region (wl_move rfl rfl (wl_move rfl rfl (wl_nilCheck rfl rfl ?_))))))
  refine wl_fieldAddr rfl fo_140_0 rfl ?_
  refine wl_load rfl ag_9 (by first | assumption | exact hS15.cell 0 rfl rfl) rfl ?_
  refine wl_move rfl rfl ?_
  refine wl_add rfl rfl (by omega) (by omega) rfl ?_
  refine wl_sliceS (k + 1) r.length Tryz.underlying9 rfl (bndS (k + 1) _ rfl rfl) (bndN _) (by omega) (by omega) rfl ?_
  rw [List.take_length]
  refine wl_nilCheck rfl rfl ?_
  refine wl_fieldAddr rfl fo_140_0 rfl ?_
  first | (refine wl_store hS15 rfl rfl sz_9 (by first | rfl | assumption) (i := 0) rfl (by first | decide | exact Nat.le_of_ble_eq_true rfl | (simp; done) | omega) ?_)
  intro w18 hS19; dsimp only [List.set] at hS19
  clear hS15
  refine wl_nil (qs_seq ?_)
  refine wc_sub (L' := [(6, _)]) (.cons rfl .nil) ?_
  refine wc_seq (wc_region (wl_move rfl rfl (wl_assign rfl rfl (wl_nil (qs_seq (wc_ret ?_))))))
  refine fin1 (.inr rfl) rfl rfl ?_
  have hnp := numP_back (least := -9223372036854775808) he hce hvi hvi.1 (hok (by simpa using (by assumption : (!ok) = false)))
  exact ⟨_, rfl, by rw [(num_some (s := (r, q)) hnp).1], by rw [(num_some (s := (r, q)) hnp).2]; exact hS19⟩
 refine wl_unwanted rfl rfl (decide_eq_false h2) rfl ?_
 refine wl_unwanted rfl rfl (decide_eq_false h2) rfl ?_
 refine wl_pickF rfl (decide_eq_false h2) rfl rfl ?_
 refine wl_move rfl rfl ?_
 refine wl_unwanted rfl rfl rfl rfl ?_
 refine wl_unwanted rfl rfl rfl rfl ?_
 refine wl_unwanted rfl rfl rfl rfl ?_
 refine wl_unwanted rfl rfl rfl rfl ?_
 refine wl_unwanted rfl rfl rfl rfl ?_
 refine wl_unwanted rfl rfl rfl rfl ?_
 refine wl_unwanted rfl rfl rfl rfl ?_
 refine wl_unwanted rfl rfl rfl rfl ?_
 refine wl_pickF rfl rfl rfl rfl ?_
 refine wl_nil (qs_seq ?_)
 refine wc_sub (L' := [(28, _), (0, _), (1, _), (5, _)]) (.cons rfl (.cons rfl (.cons rfl (.cons rfl .nil)))) ?_
 refine wc_condF rfl ?_
 refine wc_exit (qs_then_exit (qs_then_exit (qs_block_exit (qs_seq (wc_seq (wc_seq (wc_region (wl_move rfl rfl (wl_move rfl rfl (wl_nilCheck rfl rfl ?_))))))))))
 refine wl_fieldAddr rfl fo_140_0 rfl ?_
 refine wl_load rfl ag_9 (by first | assumption | exact hS1.cell 0 rfl rfl) rfl ?_
 refine wl_lenS Tryz.underlying9 rfl rfl ?_
 refine wl_geq rfl rfl rfl ?_
 refine wl_nil (qs_seq ?_)
 refine wc_sub (L' := [(37, _), (0, _), (1, _), (5, _)]) (.cons rfl (.cons rfl (.cons rfl (.cons rfl .nil)))) ?_
 refine wc_condD rfl (fun h20 => ?_) (fun h20 => ?_)
 ·refine wc_seq (wc_region (wl_move rfl rfl ?_))
  have hC21 := hS1.split [0] [true, false] rfl; dsimp only [selF, pickA, nthA, List.cons_append, List.nil_append] at hC21
  refine wl_call cal_120 rfl (r1Fail_sp (s := (r, q)) hC21) rfl ?_
  rintro e w21 ⟨_, rfl, rfl, hS21⟩; refine ⟨_, rfl, ?_⟩
  replace hS21 := hS21.join rfl; dsimp only [List.dropLast, List.cons_append, List.nil_append] at hS21; clear hC21
  clear hS1
  refine wl_assign rfl rfl (wl_nil (qs_seq (wc_ret (qs_then_ret ?_))))
  refine fin1 (.inr rfl) rfl rfl ?_
  have hnp := ahead_far hno (.inl (by omega))
  exact ⟨_, rfl, by rw [(num_none (s := (r, q)) hnp).1], by rw [(num_none (s := (r, q)) hnp).2]; exact hS21⟩
 obtain ⟨ch2, hc2⟩ : ∃ c, r[k]? = some c := ⟨_, List.getElem?_eq_getElem (by omega)⟩
 refine wc_skip (qs_seq (wc_seq (wc_seq (wc_region (wl_move rfl rfl (wl_nilCheck rfl rfl ?_))))))
 refine wl_fieldAddr rfl fo_140_0 rfl ?_
 refine wl_load rfl ag_9 (by first | assumption | exact hS1.cell 0 rfl rfl) rfl ?_
 refine wl_move rfl rfl ?_
 refine wl_indexS k Tryz.underlying9 rfl rfl (by first | rfl | omega) hc2 rfl ?_
 refine wl_move rfl rfl ?_
 refine wl_neq rfl rfl rfl ?_
 refine wl_nil (qs_seq ?_)
 refine wc_sub (L' := [(47, _), (0, _), (5, _)]) (.cons rfl (.cons rfl (.cons rfl .nil))) ?_
 refine wc_condD rfl (fun h22 => ?_) (fun h22 => ?_)
 ·refine wc_seq (wc_region (wl_move rfl rfl ?_))
  have hC23 := hS1.split [0] [true, false] rfl; dsimp only [selF, pickA, nthA, List.cons_append, List.nil_append] at hC23
  refine wl_call cal_120 rfl (r1Fail_sp (s := (r, q)) hC23) rfl ?_
  rintro e w23 ⟨_, rfl, rfl, hS23⟩; refine ⟨_, rfl, ?_⟩
  replace hS23 := hS23.join rfl; dsimp only [List.dropLast, List.cons_append, List.nil_append] at hS23; clear hC23
  clear hS1
  refine wl_assign rfl rfl (wl_nil (qs_seq (wc_ret (qs_then_ret ?_))))
  refine fin1 (.inr rfl) rfl rfl ?_
  have hnp := ahead_far hno (.inr (.inl (by omega)))
  exact ⟨_, rfl, by rw [(num_none (s := (r, q)) hnp).1], by rw [(num_none (s := (r, q)) hnp).2]; exact hS23⟩
 have hce : r[k]? = some e := by have hq9 := UInt8.toNat_inj.1 (show ch2.toNat = e.toNat by omega); rw [hc2, hq9]
 refine wc_skip (qs_seq (wc_seq (wc_region (wl_move rfl rfl (wl_nilCheck rfl rfl ?_)))))
 refine wl_fieldAddr rfl fo_140_0 rfl ?_
 refine wl_load rfl ag_9 (by first | assumption | exact hS1.cell 0 rfl rfl) rfl ?_
 refine wl_move rfl rfl ?_
 refine wl_sliceS 0 k Tryz.underlying9 rfl (bndN _) (bndS k _ rfl rfl) (by omega) (by omega) rfl ?_
 rw [List.drop_zero]
 have hC24 := hS1.split [] [false, false] rfl; dsimp only [selF, pickA, nthA, List.cons_append, List.nil_append] at hC24
 refine wl_call cal_121 rfl (back_sp hC24 (r.take k) (by simp; omega)) rfl ?_
 rintro e w24 ⟨_, rfl, vn, ok, rfl, hvi, hok, hbad, hS24⟩; refine ⟨_, rfl, ?_⟩
 replace hS24 := hS24.join rfl; dsimp only [List.dropLast, List.cons_append, List.nil_append] at hS24; clear hC24
 clear hS1
 refine wl_move rfl rfl (wl_extract rfl rfl rfl (wl_extract rfl rfl rfl (wl_assign rfl rfl (wl_assign rfl rfl (wl_nil (qs_seq ?_))))))
 refine wc_sub (L' := [(7, _), (6, _), (0, _), (5, _)]) (.cons rfl (.cons rfl (.cons rfl (.cons rfl .nil)))) ?_
 refine wc_seq (wc_seq (wc_region (wl_move rfl rfl ?_)))
 refine wl_not rfl rfl ?_
 refine wl_nil (qs_seq ?_)
 refine wc_cond rfl (fun h25 => ?_) (fun h25 => ?_)
 ·refine wc_seq (wc_region (wl_move rfl rfl ?_))
  have hC26 := hS24.split [0] [true, false] rfl; dsimp only [selF, pickA, nthA, List.cons_append, List.nil_append] at hC26
  refine wl_call cal_120 rfl (r1Fail_sp (s := (r, q)) hC26) rfl ?_
  rintro e w26 ⟨_, rfl, rfl, hS26⟩; refine ⟨_, rfl, ?_⟩
  replace hS26 := hS26.join rfl; dsimp only [List.dropLast, List.cons_append, List.nil_append] at hS26; clear hC26
  clear hS24
  refine wl_assign rfl rfl (wl_nil (qs_seq (wc_ret (qs_then_ret ?_))))
  refine fin1 (.inr rfl) rfl rfl ?_
  have hnp := ahead_bad he hno hce (hbad (by simpa using (by assumption : (!ok) = true)))
  exact ⟨_, rfl, by rw [(num_none (s := (r, q)) hnp).1], by rw [(num_none (s := (r, q)) hnp).2]; exact hS26⟩
 refine wc_skip (qs_seq (wc_seq (wc_region (wl_move rfl rfl (wl_move rfl rfl (wl_nilCheck rfl rfl ?_))))))
 refine wl_fieldAddr rfl fo_140_0 rfl ?_
 refine wl_load rfl ag_9 (by first | assumption | exact hS24.cell 0 rfl rfl) rfl ?_
 refine wl_move rfl rfl ?_
 refine wl_add rfl rfl (by omega) (by omega) rfl ?_
 refine wl_sliceS (k + 1) r.length Tryz.underlying9 rfl (bndS (k + 1) _ rfl rfl) (bndN _) (by omega) (by omega) rfl ?_
 rw [List.take_length]
 refine wl_nilCheck rfl rfl ?_
 refine wl_fieldAddr rfl fo_140_0 rfl ?_
 first | (refine wl_store hS24 rfl rfl sz_9 (by first | rfl | assumption) (i := 0) rfl (by first | decide | exact Nat.le_of_ble_eq_true rfl | (simp; done) | omega) ?_)
 intro w27 hS28; dsimp only [List.set] at hS28
 clear hS24
 refine wl_nil (qs_seq ?_)
 refine wc_sub (L' := [(6, _)]) (.cons rfl .nil) ?_
 refine wc_seq (wc_region (wl_move rfl rfl (wl_assign rfl rfl (wl_nil (qs_seq (wc_ret ?_))))))
 refine fin1 (.inr rfl) rfl rfl ?_
 have hnp := numP_back (least := -9223372036854775808) he hce hvi hvi.1 (hok (by simpa using (by assumption : (!ok) = false)))
 exact ⟨_, rfl, by rw [(num_some (s := (r, q)) hnp).1], by rw [(num_some (s := (r, q)) hnp).2]; exact hS28⟩
theorem r1RInt_sp {w : World} {F : Th} {b : Nat} {s : Bs × Bool} (hS : Sat w [readT b s, F]) (hrl : s.1.length ≤ 9223372036854775806) :
    Calls Tryz.prog 67 #[ptrV b 0] w (Ret fun v w' => v = intV (numV 59 (-9223372036854775808) s) ∧ Sat w' [readT b (numR 59 (-9223372036854775808) s), F]) := by
 refine calls_enter Tryz.func67 rfl Tryz.ntmps67 rfl ?_
 refine wc_seq (wc_region (wl_assign rfl rfl (wl_nil (qs_seq (wc_seq (wc_region (wl_move rfl rfl ?_)))))))
 have hC1 := hS.split [0] [true, false] rfl; dsimp only [selF, pickA, nthA, List.cons_append, List.nil_append] at hC1
 refine wl_call cal_101 rfl (ahead_sp hC1 59 (by decide) hrl) rfl ?_
 rintro e w1 ⟨_, rfl, rfl, hS1⟩; refine ⟨_, rfl, ?_⟩
 replace hS1 := hS1.join rfl; dsimp only [List.dropLast, List.cons_append, List.nil_append] at hS1; clear hC1
 refine wl_assign rfl rfl (wl_nil (qs_seq (wc_ret ?_)))
 refine fin1 (.inr rfl) rfl rfl ?_
 exact ⟨_, rfl, rfl, hS1⟩
end Go.Proofs.YtfmkodmmbgibgaaGreatDoor
/- reference 01: texts -/
namespace Go.Proofs.YtfmkodmmbgibgaaGreatDoor
open Go.RowKit M
set_option linter.unusedVariables false
theorem numP_zero (e : UInt8) (r : Bs) : numP e 0 r = match numP e (-9223372036854775808) r with | some (n, r') => if 0 ≤ n then some (n, r') else none | none => none := by
  unfold numP
  by_cases h : Lib.indexByte (r.take 21) e < 0
  · rw [if_pos h, if_pos h]
  · rw [if_neg h, if_neg h]
    cases hq : Lib.atoiAll ((r.take 21).take (Lib.indexByte (r.take 21) e).toNat) with
    | ok n =>
      dsimp only
      have hn := atoi_in hq
      unfold inI at hn
      by_cases h1 : Lib.itoa n = (r.take 21).take (Lib.indexByte (r.take 21) e).toNat
      · rw [if_pos (c := _ ∧ -9223372036854775808 ≤ n) ⟨h1, hn.1⟩]
        dsimp only
        by_cases h2 : 0 ≤ n
        · rw [if_pos ⟨h1, h2⟩, if_pos h2]
        · rw [if_neg (fun q => h2 q.2), if_neg h2]
      · rw [if_neg (fun q => h1 q.1), if_neg (c := _ ∧ -9223372036854775808 ≤ n) (fun q => h1 q.1)]
    | «syntax» => rfl
    | range => rfl
theorem num_zero (e : UInt8) (s : Bs × Bool) : numV e 0 s = (if numV e (-9223372036854775808) s < 0 then 0 else numV e (-9223372036854775808) s) ∧ numR e 0 s = (if numV e (-9223372036854775808) s < 0 then ([], true) else numR e (-9223372036854775808) s) := by
  unfold numV numR
  rw [numP_zero]
  cases numP e (-9223372036854775808) s.1 with
  | none => simp
  | some x =>
    obtain ⟨n, r⟩ := x
    dsimp only
    by_cases h : 0 ≤ n
    · rw [if_pos h, if_neg (by omega), if_neg (by omega)]; exact ⟨rfl, rfl⟩
    · rw [if_neg h, if_pos (by omega), if_pos (by omega)]; exact ⟨rfl, rfl⟩
/-- a reader that has failed has nothing left -/
def OkR (s : Bs × Bool) : Prop := s.2 = true → s.1 = []
theorem OkR.num {s : Bs × Bool} (h : OkR s) (e : UInt8) (l : Int) : OkR (numR e l s) := by
  intro hb
  unfold numR at hb ⊢
  cases hp : numP e l s.1 with
  | none => rfl
  | some x =>
    rw [hp] at hb
    have := h hb
    rw [this, num_neg (by simp [Lib.indexByte])] at hp
    cases hp
theorem OkR.txt {s : Bs × Bool} (h : OkR s) : OkR (txtR s) := by
  unfold txtR
  split
  · exact fun _ => rfl
  · have h1 := h.num 58 0
    rcases hN : numR 58 0 s with ⟨r, b⟩
    rw [hN] at h1
    intro hb
    dsimp only at hb ⊢
    cases hd : List.drop (numV 58 0 s).toNat r with
    | nil => rfl
    | cons c t =>
      rw [hd] at hb
      simp only [cutV] at hb ⊢
      split at hb
      · rename_i hc
        have : r = [] := h1 hb
        rw [this] at hd; simp at hd
      · rename_i hc; rw [if_neg hc]
theorem r1Num_sp {w : World} {F : Th} {b : Nat} {s : Bs × Bool} (hS : Sat w [readT b s, F]) (e : UInt8) (he : 57 < e.toNat) (hrl : s.1.length ≤ 9223372036854775806) :
    Calls Tryz.prog 122 #[ptrV b 0, byteV e] w (Ret fun v w' => v = intV (numV e 0 s) ∧ Sat w' [readT b (numR e 0 s), F]) := by
 refine calls_enter Tryz.func122 rfl Tryz.ntmps122 rfl ?_
 refine wc_seq (wc_region (wl_assign rfl rfl (wl_nil (qs_seq (wc_seq (wc_region (wl_move rfl rfl (wl_move rfl rfl ?_))))))))
 have hC1 := hS.split [0] [true, false] rfl; dsimp only [selF, pickA, nthA, List.cons_append, List.nil_append] at hC1
 refine wl_call cal_101 rfl (ahead_sp hC1 e he hrl) rfl ?_
 rintro e w1 ⟨_, rfl, rfl, hS1⟩; refine ⟨_, rfl, ?_⟩
 replace hS1 := hS1.join rfl; dsimp only [List.dropLast, List.cons_append, List.nil_append] at hS1; clear hC1
 refine wl_assign rfl rfl (wl_nil (qs_seq (wc_seq (wc_seq (wc_region (wl_move rfl rfl ?_))))))
 refine wl_lss rfl rfl rfl ?_
 refine wl_nil (qs_seq ?_)
 refine wc_condD rfl (fun h2 => ?_) (fun h2 => ?_)
 ·refine wc_seq (wc_region (wl_move rfl rfl ?_))
  have hC3 := hS1.split [0] [true, false] rfl; dsimp only [selF, pickA, nthA, List.cons_append, List.nil_append] at hC3
  refine wl_call cal_120 rfl (r1Fail_sp hC3) rfl ?_
  rintro e w3 ⟨_, rfl, rfl, hS3⟩; refine ⟨_, rfl, ?_⟩
  replace hS3 := hS3.join rfl; dsimp only [List.dropLast, List.cons_append, List.nil_append] at hS3; clear hC3
  clear hS1
  refine wl_assign rfl rfl (wl_nil (qs_seq ?_))
  refine wc_sub (L' := [(4, _), (5, _)]) (.cons rfl (.cons rfl .nil)) ?_
  refine wc_ret (qs_then_ret ?_)
  refine fin1 (.inr rfl) rfl rfl ?_
  exact ⟨_, rfl, by rw [(num_zero e s).1, if_pos (by assumption)], by rw [(num_zero e s).2, if_pos (by assumption)]; exact hS3⟩
 refine wc_skip (qs_seq (wc_seq (wc_region (wl_move rfl rfl (wl_assign rfl rfl (wl_nil (qs_seq (wc_ret ?_))))))))
 refine fin1 (.inr rfl) rfl rfl ?_
 exact ⟨_, rfl, by rw [(num_zero e s).1, if_neg (by assumption)], by rw [(num_zero e s).2, if_neg (by assumption)]; exact hS1⟩
def closeB (e : UInt8) (r : Bs) : Bool := match r with | c :: _ => decide (c = e) | [] => false
theorem r1Close_sp {w : World} {F : Th} {b : Nat} {s : Bs × Bool} (hS : Sat w [readT b s, F]) (e : UInt8) :
    Calls Tryz.prog 123 #[ptrV b 0, byteV e] w (Ret fun v w' => v = .bool (closeB e s.1) ∧ Sat w' [readT b (cutV e s), F]) := by
 obtain ⟨r, q⟩ := s
 change Sat w [blkT b [strV r, .bool q], F] at hS
 refine calls_enter Tryz.func123 rfl Tryz.ntmps123 rfl ?_
 refine wc_seq (wc_region (wl_assign rfl rfl (wl_nil (qs_seq (wc_seq (wc_seq (wc_region (wl_move rfl rfl (wl_nilCheck rfl rfl ?_)))))))))
 refine wl_fieldAddr rfl fo_140_0 rfl ?_
 refine wl_load rfl ag_9 (by first | assumption | exact hS.cell 0 rfl rfl) rfl ?_
 refine wl_lenS Tryz.underlying9 rfl rfl ?_
 refine wl_eql rfl rfl rfl ?_
 refine wl_nil (qs_seq ?_)
 refine wc_condD rfl (fun h1 => ?_) (fun h1 => ?_)
 ·refine wc_seq (wc_region (wl_move rfl rfl ?_))
  have hC2 := hS.split [0] [true, false] rfl; dsimp only [selF, pickA, nthA, List.cons_append, List.nil_append] at hC2
  refine wl_call cal_120 rfl (r1Fail_sp (s := (r, q)) hC2) rfl ?_
  rintro e w2 ⟨_, rfl, rfl, hS2⟩; refine ⟨_, rfl, ?_⟩
  replace hS2 := hS2.join rfl; dsimp only [List.dropLast, List.cons_append, List.nil_append] at hS2; clear hC2
  refine wl_nil (qs_seq ?_)
  refine wc_sub (L' := [(4, _), (0, _), (1, _)]) (.cons rfl (.cons rfl (.cons rfl .nil))) ?_
  refine wc_seq (wc_region (wl_assign rfl rfl (wl_nil (qs_seq (wc_ret (qs_then_ret ?_))))))
  refine fin1 (.inr rfl) rfl rfl ?_
  obtain rfl : r = [] := List.length_eq_zero_iff.1 (by omega)
  exact ⟨_, rfl, rfl, hS2⟩
 obtain ⟨ch, r2, rfl⟩ : ∃ ch r2, r = ch :: r2 := by cases r with | nil => simp at h1 | cons ch r2 => exact ⟨ch, r2, rfl⟩
 refine wc_skip (qs_seq (wc_seq (wc_seq (wc_region (wl_move rfl rfl (wl_nilCheck rfl rfl ?_))))))
 refine wl_fieldAddr rfl fo_140_0 rfl ?_
 refine wl_load rfl ag_9 (by first | assumption | exact hS.cell 0 rfl rfl) rfl ?_
 refine wl_indexS 0 Tryz.underlying9 rfl rfl (by first | rfl | omega) (show (ch :: r2)[0]? = some ch from rfl) rfl ?_
 refine wl_move rfl rfl ?_
 refine wl_neq rfl rfl rfl ?_
 refine wl_nil (qs_seq ?_)
 refine wc_sub (L' := [(19, _), (4, _), (0, _)]) (.cons rfl (.cons rfl (.cons rfl .nil))) ?_
 refine wc_condD rfl (fun h3 => ?_) (fun h3 => ?_)
 ·refine wc_seq (wc_region (wl_move rfl rfl ?_))
  have hC4 := hS.split [0] [true, false] rfl; dsimp only [selF, pickA, nthA, List.cons_append, List.nil_append] at hC4
  refine wl_call cal_120 rfl (r1Fail_sp (s := (ch :: r2, q)) hC4) rfl ?_
  rintro e w4 ⟨_, rfl, rfl, hS4⟩; refine ⟨_, rfl, ?_⟩
  replace hS4 := hS4.join rfl; dsimp only [List.dropLast, List.cons_append, List.nil_append] at hS4; clear hC4
  refine wl_nil (qs_seq (wc_seq (wc_region (wl_assign rfl rfl (wl_nil (qs_seq (wc_ret (qs_then_ret ?_))))))))
  refine fin1 (.inr rfl) rfl rfl ?_
  have hce : ¬ ch = e := fun q => absurd (by rw [q]) (by assumption : ¬ ((ch.toNat : Int) = e.toNat))
  exact ⟨_, rfl, by simp only [closeB, decide_eq_false hce], by simp only [cutV, if_neg hce]; exact hS4⟩
 refine wc_skip (qs_seq (wc_seq (wc_region (wl_move rfl rfl (wl_move rfl rfl (wl_nilCheck rfl rfl ?_))))))
 refine wl_fieldAddr rfl fo_140_0 rfl ?_
 refine wl_load rfl ag_9 (by first | assumption | exact hS.cell 0 rfl rfl) rfl ?_
 refine wl_sliceS 1 (r2.length + 1) Tryz.underlying9 rfl (bndS 1 _ rfl rfl) (bndN _) (by first | omega | (simp; omega) | (simp; done)) (by first | omega | (simp; omega) | (simp; done)) rfl ?_
 rw [show List.drop 1 (List.take (r2.length + 1) (ch :: r2)) = r2 by rw [List.take_of_length_le (by simp)]; rfl]
 refine wl_nilCheck rfl rfl ?_
 refine wl_fieldAddr rfl fo_140_0 rfl ?_
 first | (refine wl_store hS rfl rfl sz_9 (by first | rfl | assumption) (i := 0) rfl (by first | decide | exact Nat.le_of_ble_eq_true rfl | (simp; done) | omega) ?_)
 intro w5 hS6; dsimp only [List.set] at hS6
 refine wl_nil (qs_seq ?_)
 refine wc_sub (L' := [(4, _)]) (.cons rfl .nil) ?_
 refine wc_seq (wc_region (wl_assign rfl rfl (wl_nil (qs_seq (wc_ret ?_)))))
 refine fin1 (.inr rfl) rfl rfl ?_
 obtain rfl : ch = e := UInt8.toNat_inj.1 (by omega)
 exact ⟨_, rfl, by simp [closeB], by simp only [cutV, if_true]; exact hS6⟩
theorem close_yes {e : UInt8} {r : Bs} {q : Bool} (h : closeB e r = true) : cutV e (r, q) = (r.drop 1, q) := by
  cases r with
  | nil => cases h
  | cons c r => simp only [closeB, decide_eq_true_eq] at h; simp [cutV, h]
theorem close_no {e : UInt8} {r : Bs} {q : Bool} (h : closeB e r = false) : cutV e (r, q) = ([], true) := by
  cases r with
  | nil => rfl
  | cons c r => simp only [closeB, decide_eq_false_iff_not] at h; simp [cutV, h]
set_option maxRecDepth 100000 in
theorem r1RText_sp {w : World} {F : Th} {b : Nat} {s : Bs × Bool} (hS : Sat w [readT b s, F]) (hb : OkR s) (hrl : s.1.length ≤ 20000000) :
    Calls Tryz.prog 104 #[ptrV b 0] w (Ret fun v w' => v = strV (txtV s) ∧ Sat w' [readT b (txtR s), F]) := by
 refine calls_enter Tryz.func104 rfl Tryz.ntmps104 rfl ?_
 refine wc_seq (wc_region (wl_assign rfl rfl (wl_nil (qs_seq (wc_seq (wc_region (wl_move rfl rfl ?_)))))))
 have hC1 := hS.split [0] [true, false] rfl; dsimp only [selF, pickA, nthA, List.cons_append, List.nil_append] at hC1
 refine wl_call cal_122 rfl (r1Num_sp hC1 58 (by decide) (by omega)) rfl ?_
 rintro e w1 ⟨_, rfl, rfl, hS1⟩; refine ⟨_, rfl, ?_⟩
 replace hS1 := hS1.join rfl; dsimp only [List.dropLast, List.cons_append, List.nil_append] at hS1; clear hC1
 obtain ⟨k, hk⟩ : ∃ k : Nat, numV 58 0 s = (k : Int) := ⟨(numV 58 0 s).toNat, by have := numV_nn 58 s; omega⟩
 rw [hk]
 have hnl := numR_len 58 0 s
 have hrb := hb.num 58 0
 rcases hN : numR 58 0 s with ⟨r1, q1⟩
 rw [hN] at hS1 hnl hrb
 dsimp only at hnl
 change q1 = true → r1 = [] at hrb
 change Sat w1 [blkT b [strV r1, .bool q1], F] at hS1
 refine wl_assign rfl rfl (wl_nil (qs_seq (wc_seq (wc_seq (wc_region (wl_move rfl rfl (wl_nilCheck rfl rfl ?_)))))))
 refine wl_fieldAddr rfl fo_140_1 rfl ?_
 refine wl_load rfl ag_4 (by first | assumption | exact hS1.cell 0 rfl rfl) rfl ?_
 refine wl_move rfl rfl ?_
 refine wl_split 11 rfl (fun h2 => ?_) (fun h2 => ?_)
 ·have hq1 : q1 = true := h2
  refine wl_unwanted rfl rfl h2 rfl ?_
  refine wl_unwanted rfl rfl h2 rfl ?_
  refine wl_unwanted rfl rfl h2 rfl ?_
  refine wl_unwanted rfl rfl h2 rfl ?_
  refine wl_unwanted rfl rfl h2 rfl ?_
  refine wl_unwanted rfl rfl h2 rfl ?_
  refine wl_unwanted rfl rfl h2 rfl ?_
  refine wl_pickT rfl h2 rfl rfl ?_
  refine wl_nil (qs_seq ?_)
  refine wc_sub (L' := [(19, _), (3, _), (2, _), (0, _)]) (.cons rfl (.cons rfl (.cons rfl (.cons rfl .nil)))) ?_
  refine wc_condT rfl ?_
  refine wc_seq (wc_region (wl_move rfl rfl ?_))
  have hC3 := hS1.split [0] [true, false] rfl; dsimp only [selF, pickA, nthA, List.cons_append, List.nil_append] at hC3
  refine wl_call cal_120 rfl (r1Fail_sp (s := (r1, q1)) hC3) rfl ?_
  rintro e w3 ⟨_, rfl, rfl, hS3⟩; refine ⟨_, rfl, ?_⟩
  replace hS3 := hS3.join rfl; dsimp only [List.dropLast, List.cons_append, List.nil_append] at hS3; clear hC3
  clear hS1
  refine wl_nil (qs_seq (wc_seq (wc_region (wl_assign rfl rfl (wl_nil (qs_seq (wc_ret (qs_then_ret ?_))))))))
  refine fin1 (.inr rfl) rfl rfl ?_
  have hfull : cutV 44 (r1.drop k, q1) = ([], true) ∨ (r1.length : Int) < k := by subst hq1; have : r1 = [] := hrb rfl; subst this; exact .inl (by simp [cutV])
  by_cases hlt : (r1.length : Int) < k
  ·exact ⟨_, rfl, by unfold txtV; rw [hN, hk]; dsimp only; rw [if_pos hlt], by unfold txtR; rw [hN, hk]; dsimp only; rw [if_pos hlt]; exact hS3⟩
  ·have hfl := hfull.resolve_right hlt
   exact ⟨_, rfl, by unfold txtV; rw [hN, hk]; dsimp only; rw [if_neg hlt, Int.toNat_natCast, hfl]; rfl, by unfold txtR; rw [hN, hk]; dsimp only; rw [if_neg hlt, Int.toNat_natCast, hfl]; exact hS3⟩
 have hq1 : q1 = false := h2
 refine wl_guard rfl rfl h2 ?_
 refine wl_move rfl rfl ?_
 refine wl_guard rfl rfl h2 ?_
 refine wl_move rfl rfl ?_
 refine wl_guard rfl rfl h2 ?_
 refine wl_nilCheck rfl rfl ?_
 refine wl_guard rfl rfl h2 ?_
 refine wl_fieldAddr rfl fo_140_0 rfl ?_
 refine wl_guard rfl rfl h2 ?_
 refine wl_load rfl ag_9 (by first | assumption | exact hS1.cell 0 rfl rfl) rfl ?_
 refine wl_guard rfl rfl h2 ?_
 refine wl_lenS Tryz.underlying9 rfl rfl ?_
 refine wl_guard rfl rfl h2 ?_
 refine wl_geq rfl rfl rfl ?_
 refine wl_pickF rfl h2 rfl rfl ?_
 refine wl_nil (qs_seq ?_)
 refine wc_sub (L' := [(19, _), (3, _), (2, _), (0, _)]) (.cons rfl (.cons rfl (.cons rfl (.cons rfl .nil)))) ?_
 refine wc_condD rfl (fun h4 => ?_) (fun h4 => ?_)
 ·refine wc_seq (wc_region (wl_move rfl rfl ?_))
  have hC5 := hS1.split [0] [true, false] rfl; dsimp only [selF, pickA, nthA, List.cons_append, List.nil_append] at hC5
  refine wl_call cal_120 rfl (r1Fail_sp (s := (r1, q1)) hC5) rfl ?_
  rintro e w5 ⟨_, rfl, rfl, hS5⟩; refine ⟨_, rfl, ?_⟩
  replace hS5 := hS5.join rfl; dsimp only [List.dropLast, List.cons_append, List.nil_append] at hS5; clear hC5
  clear hS1
  refine wl_nil (qs_seq (wc_seq (wc_region (wl_assign rfl rfl (wl_nil (qs_seq (wc_ret (qs_then_ret ?_))))))))
  refine fin1 (.inr rfl) rfl rfl ?_
  have hfull : cutV 44 (r1.drop k, q1) = ([], true) ∨ (r1.length : Int) < k := by by_cases hlt : (r1.length : Int) < k; exact .inr hlt; exact .inl (by rw [List.drop_eq_nil_of_le (by omega)]; rfl)
  by_cases hlt : (r1.length : Int) < k
  ·exact ⟨_, rfl, by unfold txtV; rw [hN, hk]; dsimp only; rw [if_pos hlt], by unfold txtR; rw [hN, hk]; dsimp only; rw [if_pos hlt]; exact hS5⟩
  ·have hfl := hfull.resolve_right hlt
   exact ⟨_, rfl, by unfold txtV; rw [hN, hk]; dsimp only; rw [if_neg hlt, Int.toNat_natCast, hfl]; rfl, by unfold txtR; rw [hN, hk]; dsimp only; rw [if_neg hlt, Int.toNat_natCast, hfl]; exact hS5⟩
 refine wc_skip (qs_seq (wc_seq (wc_region (wl_move rfl rfl (wl_nilCheck rfl rfl ?_)))))
 refine wl_fieldAddr rfl fo_140_0 rfl ?_
 refine wl_load rfl ag_9 (by first | assumption | exact hS1.cell 0 rfl rfl) rfl ?_
 refine wl_move rfl rfl ?_
 refine wl_sliceS 0 k Tryz.underlying9 rfl (bndN _) (bndS k _ rfl rfl) (by omega) (by omega) rfl ?_
 rw [List.drop_zero]
 refine wl_assign rfl rfl (wl_nil (qs_seq ?_))
 refine wc_sub (L' := [(4, _), (3, _), (2, _), (0, _)]) (.cons rfl (.cons rfl (.cons rfl (.cons rfl .nil)))) ?_
 refine wc_seq (wc_region (wl_move rfl rfl (wl_move rfl rfl (wl_nilCheck rfl rfl ?_))))
 refine wl_fieldAddr rfl fo_140_0 rfl ?_
 refine wl_load rfl ag_9 (by first | assumption | exact hS1.cell 0 rfl rfl) rfl ?_
 refine wl_move rfl rfl ?_
 refine wl_sliceS k r1.length Tryz.underlying9 rfl (bndS k _ rfl rfl) (bndN _) (by omega) (by omega) rfl ?_
 rw [List.take_length]
 refine wl_nilCheck rfl rfl ?_
 refine wl_fieldAddr rfl fo_140_0 rfl ?_
 first | (refine wl_store hS1 rfl rfl sz_9 (by first | rfl | assumption) (i := 0) rfl (by first | decide | exact Nat.le_of_ble_eq_true rfl | (simp; done) | omega) ?_)
 intro w6 hS7; dsimp only [List.set] at hS7
 clear hS1
 refine wl_nil (qs_seq ?_)
 refine wc_sub (L' := [(4, _), (2, _), (0, _)]) (.cons rfl (.cons rfl (.cons rfl .nil))) ?_
 refine wc_seq (wc_seq (wc_region (wl_move rfl rfl ?_)))
 have hC8 := hS7.split [0] [true, false] rfl; dsimp only [selF, pickA, nthA, List.cons_append, List.nil_append] at hC8
 refine wl_call cal_123 rfl (r1Close_sp (s := (r1.drop k, q1)) hC8 44) rfl ?_
 rintro e w8 ⟨_, rfl, rfl, hS8⟩; refine ⟨_, rfl, ?_⟩
 replace hS8 := hS8.join rfl; dsimp only [List.dropLast, List.cons_append, List.nil_append] at hS8; clear hC8
 clear hS7
 refine wl_not rfl rfl ?_
 refine wl_nil (qs_seq ?_)
 refine wc_cond rfl (fun h9 => ?_) (fun h9 => ?_)
 ·refine wc_seq (wc_region (wl_assign rfl rfl (wl_nil (qs_seq (wc_ret (qs_then_ret ?_))))))
  refine fin1 (.inr rfl) rfl rfl ?_
  have hcl := close_no (q := q1) (e := 44) (r := r1.drop k) (by simp_all)
  exact ⟨_, rfl, by unfold txtV; rw [hN, hk]; dsimp only; rw [if_neg (by omega), Int.toNat_natCast, hcl]; rfl, by unfold txtR; rw [hN, hk]; dsimp only; rw [if_neg (by omega), Int.toNat_natCast]; exact hS8⟩
 refine wc_skip (qs_seq (wc_seq (wc_region (wl_move rfl rfl (wl_assign rfl rfl (wl_nil (qs_seq (wc_ret ?_))))))))
 refine fin1 (.inr rfl) rfl rfl ?_
 have hcl := close_yes (q := q1) (e := 44) (r := r1.drop k) (by simp_all)
 exact ⟨_, rfl, by unfold txtV; rw [hN, hk]; dsimp only; rw [if_neg (by omega), Int.toNat_natCast, hcl]; dsimp only; rw [if_neg (by simp_all)], by unfold txtR; rw [hN, hk]; dsimp only; rw [if_neg (by omega), Int.toNat_natCast]; exact hS8⟩
theorem r1Text_sp {w : World} {F : Th} (hS : Sat w [F]) (s : Bs) (hs : s.length ≤ 20000000) :
    Calls Tryz.prog 107 #[strV s] w (Ret fun v w' => v = strV (encT s) ∧ Sat w' [F]) := by
 refine calls_enter Tryz.func107 rfl Tryz.ntmps107 rfl ?_
 refine wc_seq (wc_region (wl_assign rfl rfl (wl_nil (qs_seq (wc_seq (wc_region (wl_move rfl rfl ?_)))))))
 refine wl_lenS Tryz.underlying9 rfl rfl ?_
 refine wl_neg rfl (by first | omega | (simp; omega)) (by first | omega | (simp; omega)) rfl ?_
 have hC1 := hS.split [] [false] rfl; dsimp only [selF, pickA, nthA, List.cons_append, List.nil_append] at hC1
 refine wl_call cal_102 rfl (digits_sp' hC1 (-(s.length : Int)) s.length rfl (by omega)) rfl ?_
 rintro e w1 ⟨_, rfl, rfl, hS1⟩; refine ⟨_, rfl, ?_⟩
 replace hS1 := hS1.join rfl; dsimp only [List.dropLast, List.cons_append, List.nil_append] at hS1; clear hC1
 have hil := decDigits_len s.length (by omega)
 refine wl_concat rfl rfl (by first | omega | (simp; omega)) rfl ?_
 refine wl_move rfl rfl ?_
 refine wl_concat rfl rfl (by first | omega | (simp; omega)) rfl ?_
 refine wl_concat rfl rfl (by first | omega | (simp; omega)) rfl ?_
 refine wl_assign rfl rfl (wl_nil (qs_seq (wc_ret ?_)))
 refine fin1 (.inr rfl) rfl rfl ?_
 exact ⟨_, rfl, by simp [encT, Lib.itoa_nonneg], hS1⟩
end Go.Proofs.YtfmkodmmbgibgaaGreatDoor
