/- reference 01: numbers as text -/
import Derived.Test.YtcbdclhoekokpaaGreatDoorRow
import Derived.Test.YtcbdclhoekokpaaGreatDoorWr
namespace Go.Proofs.YtcbdclhoekokpaaGreatDoor
open Go.RowKit M
set_option linter.unusedVariables false
theorem decDigits_len (u : Nat) (h : u < 10000000000000000000) : (Lib.decDigits u).length ≤ 19 := by rw [Lib.decDigits_length]; exact nDigits_le 18 u (by simpa using h)
set_option maxRecDepth 100000 in
theorem digits_sp (u : Nat) : ∀ {w : World} {F : Th}, Sat w [F] → u ≤ 9223372036854775808 → Calls Tryz.prog 111 #[intV (-(u : Int))] w (Ret fun v w' => v = strV (Lib.decDigits u) ∧ Sat w' [F]) := by
  induction u using Nat.strongRecOn with
  | _ u ih =>
  intro w F hS hu
  refine calls_enter Tryz.func111 rfl Tryz.ntmps111 rfl ?_
  refine wc_seq ?_
  refine wc_region ?_
  refine wl_assign rfl rfl ?_
  refine wl_nil ?_
  refine qs_seq ?_
  refine wc_seq ?_
  refine wc_region ?_
  refine wl_move rfl rfl ?_
  refine wl_remN rfl rfl (by omega) (by omega) rfl ?_
  refine wl_sub' rfl rfl (by first | omega | (simp; omega)) (by first | omega | (simp; omega)) rfl ?_
  refine wl_convToU8 (48 + u % 10) Tryz.underlying3 Tryz.underlying5 rfl (by first | rfl | omega) rfl ?_
  refine wl_rowBuild byC [UInt8.ofNat (48 + u % 10)] hS rfl Tryz.underlying99 ifz_5 rfl rfl rfl rfl (by first | rfl | simp [RowC.cells, fillL, splice]) rfl ?_
  intro b1 w1 hS1
  refine wl_rowStr 0 hS1 rfl rfl Tryz.underlying99 Tryz.underlying5 Tryz.underlying9 rfl ?_
  refine wl_assign rfl rfl ?_
  refine wl_nil ?_
  refine qs_seq ?_
  refine wc_seq ?_
  refine wc_seq ?_
  refine wc_region ?_
  refine wl_move rfl rfl ?_
  refine wl_gtr rfl rfl rfl ?_
  refine wl_nil ?_
  refine qs_seq ?_
  refine wc_sub (L' := [(11, _), (3, _), (2, _), (0, _)]) (.cons rfl (.cons rfl (.cons rfl (.cons rfl .nil)))) ?_
  refine wc_condD rfl (fun h2 => ?_) (fun h2 => ?_)
  · skip
    refine wc_seq ?_
    refine wc_region ?_
    refine wl_move rfl rfl ?_
    refine wl_assign rfl rfl ?_
    refine wl_nil ?_
    refine qs_seq ?_
    refine wc_ret ?_
    refine qs_then_ret ?_
    refine fin1 (.inr rfl) rfl rfl ?_
    exact ⟨_, rfl, by rw [dig_one (by omega)], hS1.pick [1] rfl⟩
  refine wc_skip ?_
  refine qs_seq ?_
  refine wc_seq ?_
  have hdl := decDigits_len (u / 10) (by omega)
  refine wc_region ?_
  refine wl_move rfl rfl ?_
  refine wl_quoN rfl rfl (by omega) (by omega) (by omega) rfl ?_
  rw [show -(-(-(u : Int)) / 10) = -((u / 10 : Nat) : Int) by omega]
  have hC3 := hS1.split [] [false, false] rfl; dsimp only [selF, pickA, nthA, List.cons_append, List.nil_append] at hC3
  refine wl_call cal_111 rfl (ih (u / 10) (by omega) hC3 (by omega)) rfl ?_
  rintro e w3 ⟨_, rfl, rfl, hS3⟩; refine ⟨_, rfl, ?_⟩
  replace hS3 := hS3.join rfl; dsimp only [List.dropLast, List.cons_append, List.nil_append] at hS3; clear hC3
  clear hS1
  refine wl_move rfl rfl ?_
  refine wl_concat rfl rfl (by first | omega | (simp; omega)) rfl ?_
  refine wl_assign rfl rfl ?_
  refine wl_nil ?_
  refine qs_seq ?_
  refine wc_ret ?_
  refine fin1 (.inr rfl) rfl rfl ?_
  exact ⟨_, rfl, by rw [dig_step (u := u) (by omega)], hS3.pick [1] rfl⟩
theorem digits_sp' {w : World} {F : Th} (hS : Sat w [F]) (n : Int) (u : Nat) (hn : n = -(u : Int)) (hu : u ≤ 9223372036854775808) : Calls Tryz.prog 111 #[intV n] w (Ret fun v w' => v = strV (Lib.decDigits u) ∧ Sat w' [F]) := by subst hn; exact digits_sp u hS hu
theorem r1Int_sp {w : World} {F : Th} (hS : Sat w [F]) (n : Int) (hn : inI n) :
    Calls Tryz.prog 78 #[intV n] w (Ret fun v w' => v = strV (Lib.itoa n ++ [59]) ∧ Sat w' [F]) := by
  unfold inI at hn
  refine calls_enter Tryz.func78 rfl Tryz.ntmps78 rfl ?_
  refine wc_seq ?_
  refine wc_region ?_
  refine wl_assign rfl rfl ?_
  refine wl_nil ?_
  refine qs_seq ?_
  refine wc_seq ?_
  refine wc_seq ?_
  refine wc_region ?_
  refine wl_move rfl rfl ?_
  refine wl_lss rfl rfl rfl ?_
  refine wl_nil ?_
  refine qs_seq ?_
  refine wc_condD rfl (fun h1 => ?_) (fun h1 => ?_)
  · skip
    refine wc_seq ?_
    refine wc_region ?_
    refine wl_move rfl rfl ?_
    have hC2 := hS.split [] [false] rfl; dsimp only [selF, pickA, nthA, List.cons_append, List.nil_append] at hC2
    refine wl_call cal_111 rfl (digits_sp' hC2 n n.natAbs (by omega) (by omega)) rfl ?_
    rintro e w2 ⟨_, rfl, rfl, hS2⟩; refine ⟨_, rfl, ?_⟩
    replace hS2 := hS2.join rfl; dsimp only [List.dropLast, List.cons_append, List.nil_append] at hS2; clear hC2
    have hdl := decDigits_len n.natAbs (by omega)
    refine wl_concat rfl rfl (by first | omega | (simp; omega)) rfl ?_
    refine wl_concat rfl rfl (by first | omega | (simp; omega)) rfl ?_
    refine wl_assign rfl rfl ?_
    refine wl_nil ?_
    refine qs_seq ?_
    refine wc_ret ?_
    refine qs_then_ret ?_
    refine fin1 (.inr rfl) rfl rfl ?_
    exact ⟨_, rfl, by rw [show Lib.itoa n = 45 :: Lib.decDigits n.natAbs by have h9 := Lib.itoa_neg n.natAbs (by omega); rwa [show -((n.natAbs : Nat) : Int) = n by omega] at h9]; rfl, hS2⟩
  refine wc_skip ?_
  refine qs_seq ?_
  refine wc_seq ?_
  refine wc_region ?_
  refine wl_move rfl rfl ?_
  refine wl_neg rfl (by first | omega | (simp; omega)) (by first | omega | (simp; omega)) rfl ?_
  have hC3 := hS.split [] [false] rfl; dsimp only [selF, pickA, nthA, List.cons_append, List.nil_append] at hC3
  refine wl_call cal_111 rfl (digits_sp' hC3 (-n) n.toNat (by omega) (by omega)) rfl ?_
  rintro e w3 ⟨_, rfl, rfl, hS3⟩; refine ⟨_, rfl, ?_⟩
  replace hS3 := hS3.join rfl; dsimp only [List.dropLast, List.cons_append, List.nil_append] at hS3; clear hC3
  have hdl := decDigits_len n.toNat (by omega)
  refine wl_concat rfl rfl (by first | omega | (simp; omega)) rfl ?_
  refine wl_assign rfl rfl ?_
  refine wl_nil ?_
  refine qs_seq ?_
  refine wc_ret ?_
  refine fin1 (.inr rfl) rfl rfl ?_
  exact ⟨_, rfl, by rw [show Lib.itoa n = Lib.decDigits n.toNat by rw [← Lib.itoa_nonneg, Int.toNat_of_nonneg (by omega)]], hS3⟩
theorem back_no {s : Bs} {j : Nat} {c : UInt8} (hj : fromB s ≤ j) (hc : s[j]? = some c) (h : c.toNat < 48 ∨ 57 < c.toNat ∨ 20 < j) : ∀ m, inI m → s ≠ Lib.itoa m := by
  rintro m hm rfl
  have h1 := itoa_digit hj hc
  have h2 := (itoa_len hm).1
  have h3 := (List.getElem?_eq_some_iff.1 hc).1
  omega
theorem back_cmp {s : Bs} : decide (Lib.itoa (backV s) ++ [59] = s ++ [59]) = decide (s = Lib.itoa (backV s)) := by
  congr 1; exact propext ⟨fun h => (List.append_cancel_right h).symm, fun h => by rw [← h]⟩
theorem back_yes {s : Bs} (h : decide (s = Lib.itoa (backV s)) = false) : ∀ m, inI m → s ≠ Lib.itoa m := by
  rintro m hm rfl
  rw [backV_itoa hm] at h
  simp at h
theorem backS_next {s : Bs} {f j : Nat} {c : UInt8} (h : f ≤ j) (hc : s[j]? = some c) : backS 0 ((s.drop f).take (j + 1 - f)) = IntKind.i64.wrap (IntKind.i64.wrap (10 * backS 0 ((s.drop f).take (j - f))) - ((c.toNat : Int) - 48)) := by
  rw [show j + 1 - f = (j - f) + 1 by omega, List.take_add_one, List.getElem?_drop, show f + (j - f) = j by omega, hc]
  exact backS_snoc _ _
theorem fromB_le (s : Bs) : fromB s ≤ s.length := by
  unfold fromB; split
  · rename_i h; have := (List.getElem?_eq_some_iff.1 h).1; omega
  · omega
theorem fromB_le1 (s : Bs) : fromB s ≤ 1 := by unfold fromB; split <;> omega
set_option maxRecDepth 100000 in
theorem back_sp {w : World} {F : Th} (hS : Sat w [F]) (s : Bs) (hs : s.length ≤ 1000) :
    Calls Tryz.prog 142 #[strV s] w (Ret fun v w' => ∃ n ok, v = .tuple #[intV n, .bool ok] ∧ inI n ∧ (ok = true → s = Lib.itoa n) ∧ (ok = false → ∀ m, inI m → s ≠ Lib.itoa m) ∧ Sat w' [F]) := by
  refine calls_enter Tryz.func142 rfl Tryz.ntmps142 rfl ?_
  refine wc_seq ?_
  refine wc_region ?_
  refine wl_assign rfl rfl ?_
  refine wl_assign rfl rfl ?_
  refine wl_nil ?_
  refine qs_seq ?_
  refine wc_seq ?_
  refine wc_region ?_
  refine wl_assign rfl rfl ?_
  refine wl_nil ?_
  refine qs_seq ?_
  refine wc_mid (fun E0 W0 => E0 = [(0, strV s), (4, intV (fromB s : Int))] ∧ Sat W0 [F]) ?_ ?_
  · skip
    refine wc_seq ?_
    refine wc_region ?_
    refine wl_move rfl rfl ?_
    refine wl_lenS Tryz.underlying9 rfl rfl ?_
    refine wl_gtr rfl rfl rfl ?_
    refine wl_move rfl rfl ?_
    refine wl_splitD 10 rfl (fun h2 => ?_) (fun h2 => ?_)
    · skip
      obtain ⟨c0, hc0⟩ : ∃ c, s[0]? = some c := ⟨_, List.getElem?_eq_getElem (by omega)⟩
      refine wl_guard rfl rfl (decide_eq_true h2) ?_
      refine wl_move rfl rfl ?_
      refine wl_guard rfl rfl (decide_eq_true h2) ?_
      refine wl_indexS 0 Tryz.underlying9 rfl rfl (by first | rfl | omega) hc0 rfl ?_
      refine wl_guard rfl rfl (decide_eq_true h2) ?_
      refine wl_eql rfl rfl rfl ?_
      refine wl_pickT rfl (decide_eq_true h2) rfl rfl ?_
      refine wl_nil ?_
      refine qs_seq ?_
      refine wc_sub (L' := [(14, _), (4, _), (3, _), (2, _), (0, _)]) (.cons rfl (.cons rfl (.cons rfl (.cons rfl (.cons rfl .nil))))) ?_
      refine wc_condD rfl (fun h3 => ?_) (fun h3 => ?_)
      · skip
        refine wc_region ?_
        refine wl_assign rfl rfl ?_
        refine wl_nil ?_
        have hf : fromB s = 1 := by unfold fromB; rw [hc0, if_pos (by congr 1; exact UInt8.toNat_inj.1 (show c0.toNat = 45 by omega))]
        exact qs_mid (L' := [(0, strV s), (4, intV 1)]) (.cons rfl (.cons rfl .nil)) ⟨by rw [hf]; rfl, hS⟩
      refine wc_skip ?_
      have hf : fromB s = 0 := by unfold fromB; rw [hc0, if_neg (by intro q; injection q with q; subst q; exact absurd rfl (by assumption))]
      exact qs_mid (L' := [(0, strV s), (4, intV 0)]) (.cons rfl (.cons rfl .nil)) ⟨by rw [hf]; rfl, hS⟩
    refine wl_unwanted rfl rfl (decide_eq_false h2) rfl ?_
    refine wl_unwanted rfl rfl (decide_eq_false h2) rfl ?_
    refine wl_unwanted rfl rfl (decide_eq_false h2) rfl ?_
    refine wl_pickF rfl (decide_eq_false h2) rfl rfl ?_
    refine wl_nil ?_
    refine qs_seq ?_
    refine wc_sub (L' := [(14, _), (4, _), (3, _), (2, _), (0, _)]) (.cons rfl (.cons rfl (.cons rfl (.cons rfl (.cons rfl .nil))))) ?_
    refine wc_condF rfl ?_
    refine wc_skip ?_
    have hf : fromB s = 0 := by unfold fromB; rw [List.getElem?_eq_none (by omega)]; rfl
    exact qs_mid (L' := [(0, strV s), (4, intV 0)]) (.cons rfl (.cons rfl .nil)) ⟨by rw [hf]; rfl, hS⟩
  rintro _ w1 ⟨rfl, hS1⟩
  refine wc_seq ?_
  refine wc_region ?_
  refine wl_assign rfl rfl ?_
  refine wl_nil ?_
  refine qs_seq ?_
  refine wc_seq ?_
  refine wc_seq ?_
  refine wc_region ?_
  refine wl_move rfl rfl ?_
  refine wl_assign rfl rfl ?_
  refine wl_nil ?_
  refine qs_seq ?_
  refine wc_block ?_
  refine wc_loop (fun K0 E0 W0 => ∃ (j : Nat), K0 = s.length - j ∧ E0 = [(0, strV s), (4, intV (fromB s : Int)), (5, intV (backS 0 ((s.drop (fromB s)).take (j - fromB s)))), (6, intV (j : Int))] ∧ Sat W0 [F] ∧ (fromB s ≤ j ∧ j ≤ s.length)) (L0 := [(0, _), (4, _), (5, _), (6, _)]) (s.length - fromB s) (.cons rfl (.cons rfl (.cons rfl (.cons rfl .nil)))) ⟨fromB s, rfl, by rw [Nat.sub_self]; rfl, hS1, by have : fromB s ≤ s.length := fromB_le s; omega⟩ ?_
  rintro _ _ w4 ⟨j, rfl, rfl, hS4, hj⟩
  refine wc_seq ?_
  refine wc_seq ?_
  refine wc_region ?_
  refine wl_move rfl rfl ?_
  refine wl_move rfl rfl ?_
  refine wl_lenS Tryz.underlying9 rfl rfl ?_
  refine wl_lss rfl rfl rfl ?_
  refine wl_nil ?_
  refine qs_seq ?_
  refine wc_condD rfl (fun h5 => ?_) (fun h5 => ?_)
  · skip
    obtain ⟨ch, hch⟩ : ∃ c, s[j]? = some c := ⟨_, List.getElem?_eq_getElem (by omega)⟩
    have hch256 := ch.toNat_lt
    refine wc_skip ?_
    refine qs_seq ?_
    refine wc_seq ?_
    refine wc_block ?_
    refine wc_seq ?_
    refine wc_seq ?_
    refine wc_region ?_
    refine wl_move rfl rfl ?_
    refine wl_move rfl rfl ?_
    refine wl_indexS j Tryz.underlying9 rfl rfl (by first | rfl | omega) hch rfl ?_
    refine wl_lss rfl rfl rfl ?_
    refine wl_move rfl rfl ?_
    refine wl_splitD 26 rfl (fun h6 => ?_) (fun h6 => ?_)
    · skip
      refine wl_unwanted rfl rfl (decide_eq_true h6) rfl ?_
      refine wl_unwanted rfl rfl (decide_eq_true h6) rfl ?_
      refine wl_unwanted rfl rfl (decide_eq_true h6) rfl ?_
      refine wl_unwanted rfl rfl (decide_eq_true h6) rfl ?_
      refine wl_pickT rfl (decide_eq_true h6) rfl rfl ?_
      refine wl_move rfl rfl ?_
      refine wl_unwanted rfl rfl rfl rfl ?_
      refine wl_unwanted rfl rfl rfl rfl ?_
      refine wl_pickT rfl rfl rfl rfl ?_
      refine wl_nil ?_
      refine qs_seq ?_
      refine wc_sub (L' := [(35, _), (0, _), (4, _), (5, _), (6, _)]) (.cons rfl (.cons rfl (.cons rfl (.cons rfl (.cons rfl .nil))))) ?_
      refine wc_condT rfl ?_
      refine wc_seq ?_
      refine wc_region ?_
      refine wl_assign rfl rfl ?_
      refine wl_assign rfl rfl ?_
      refine wl_nil ?_
      refine qs_seq ?_
      refine wc_ret ?_
      refine qs_then_ret ?_
      refine qs_block_ret ?_
      refine qs_then_ret ?_
      refine qs_then_ret ?_
      refine qs_block_ret ?_
      refine qs_then_ret ?_
      refine fin2 (.inr rfl) rfl rfl rfl ?_
      exact ⟨_, rfl, 0, false, rfl, by unfold inI; omega, (fun q => by cases q), (fun _ => back_no hj.1 hch (by omega)), hS4⟩
    refine wl_guard rfl rfl (decide_eq_false h6) ?_
    refine wl_move rfl rfl ?_
    refine wl_guard rfl rfl (decide_eq_false h6) ?_
    refine wl_move rfl rfl ?_
    refine wl_guard rfl rfl (decide_eq_false h6) ?_
    refine wl_indexS j Tryz.underlying9 rfl rfl (by first | rfl | omega) hch rfl ?_
    refine wl_guard rfl rfl (decide_eq_false h6) ?_
    refine wl_gtr rfl rfl rfl ?_
    refine wl_pickF rfl (decide_eq_false h6) rfl rfl ?_
    refine wl_move rfl rfl ?_
    refine wl_splitD 32 rfl (fun h7 => ?_) (fun h7 => ?_)
    · skip
      refine wl_unwanted rfl rfl (decide_eq_true h7) rfl ?_
      refine wl_unwanted rfl rfl (decide_eq_true h7) rfl ?_
      refine wl_pickT rfl (decide_eq_true h7) rfl rfl ?_
      refine wl_nil ?_
      refine qs_seq ?_
      refine wc_sub (L' := [(35, _), (0, _), (4, _), (5, _), (6, _)]) (.cons rfl (.cons rfl (.cons rfl (.cons rfl (.cons rfl .nil))))) ?_
      refine wc_condT rfl ?_
      refine wc_seq ?_
      refine wc_region ?_
      refine wl_assign rfl rfl ?_
      refine wl_assign rfl rfl ?_
      refine wl_nil ?_
      refine qs_seq ?_
      refine wc_ret ?_
      refine qs_then_ret ?_
      refine qs_block_ret ?_
      refine qs_then_ret ?_
      refine qs_then_ret ?_
      refine qs_block_ret ?_
      refine qs_then_ret ?_
      refine fin2 (.inr rfl) rfl rfl rfl ?_
      exact ⟨_, rfl, 0, false, rfl, by unfold inI; omega, (fun q => by cases q), (fun _ => back_no hj.1 hch (by omega)), hS4⟩
    refine wl_guard rfl rfl (decide_eq_false h7) ?_
    refine wl_move rfl rfl ?_
    refine wl_guard rfl rfl (decide_eq_false h7) ?_
    refine wl_gtr rfl rfl rfl ?_
    refine wl_pickF rfl (decide_eq_false h7) rfl rfl ?_
    refine wl_nil ?_
    refine qs_seq ?_
    refine wc_sub (L' := [(35, _), (0, _), (4, _), (5, _), (6, _)]) (.cons rfl (.cons rfl (.cons rfl (.cons rfl (.cons rfl .nil))))) ?_
    refine wc_condD rfl (fun h8 => ?_) (fun h8 => ?_)
    · skip
      refine wc_seq ?_
      refine wc_region ?_
      refine wl_assign rfl rfl ?_
      refine wl_assign rfl rfl ?_
      refine wl_nil ?_
      refine qs_seq ?_
      refine wc_ret ?_
      refine qs_then_ret ?_
      refine qs_block_ret ?_
      refine qs_then_ret ?_
      refine qs_then_ret ?_
      refine qs_block_ret ?_
      refine qs_then_ret ?_
      refine fin2 (.inr rfl) rfl rfl rfl ?_
      exact ⟨_, rfl, 0, false, rfl, by unfold inI; omega, (fun q => by cases q), (fun _ => back_no hj.1 hch (by omega)), hS4⟩
    refine wc_skip ?_
    refine qs_seq ?_
    refine wc_region ?_
    refine wl_move rfl rfl ?_
    refine wl_mulW rfl rfl rfl rfl ?_
    refine wl_move rfl rfl ?_
    refine wl_move rfl rfl ?_
    refine wl_indexS j Tryz.underlying9 rfl rfl (by first | rfl | omega) hch rfl ?_
    refine wl_subW (c := ((UInt8.ofNat (ch.toNat - 48)).toNat : Int)) rfl rfl (by rw [show IntKind.u8.wrap ((ch.toNat : Int) - 48) = ((ch.toNat : Int) - 48) % 256 by simp [IntKind.wrap, IntKind.signed, IntKind.bits]]; simp; omega) rfl ?_
    refine wl_convU8 Tryz.underlying5 Tryz.underlying3 rfl rfl ?_
    refine wl_subW rfl rfl rfl rfl ?_
    refine wl_assign rfl rfl ?_
    refine wl_nil ?_
    refine qs_block_normal ?_
    refine qs_seq ?_
    refine wc_sub (L' := [(5, _), (0, _), (4, _), (6, _)]) (.cons rfl (.cons rfl (.cons rfl (.cons rfl .nil)))) ?_
    refine wc_region ?_
    refine wl_move rfl rfl ?_
    refine wl_add rfl rfl (by first | omega | (simp; omega)) (by first | omega | (simp; omega)) rfl ?_
    refine wl_assign rfl rfl ?_
    refine wl_nil ?_
    exact qs_round (L1 := [(0, _), (4, _), (5, _), (6, intV ((j + 1 : Nat) : Int))]) (.cons rfl (.cons rfl (.cons rfl (.cons rfl .nil)))) (k1 := s.length - (j + 1)) (by omega) ⟨j + 1, rfl, by congr 1; rw [backS_next (by omega) hch]; simp only [show ((UInt8.ofNat (ch.toNat - 48)).toNat : Int) = (ch.toNat : Int) - 48 by simp; omega], hS4, by omega⟩
  refine wc_exit ?_
  refine qs_then_exit ?_
  refine qs_then_exit ?_
  refine qs_block_exit ?_
  refine qs_seq ?_
  refine wc_seq ?_
  refine wc_seq ?_
  refine wc_region ?_
  refine wl_move rfl rfl ?_
  refine wl_eql rfl rfl rfl ?_
  refine wl_nil ?_
  refine qs_seq ?_
  refine wc_condD rfl (fun h9 => ?_) (fun h9 => ?_)
  · skip
    refine wc_region ?_
    refine wl_move rfl rfl ?_
    refine wl_negW rfl rfl ?_
    refine wl_assign rfl rfl ?_
    refine wl_nil ?_
    refine qs_seq ?_
    refine wc_sub (L' := [(5, _), (0, _)]) (.cons rfl (.cons rfl .nil)) ?_
    refine wc_seq ?_
    have hbv : IntKind.i64.wrap (-(backS 0 ((s.drop (fromB s)).take (j - fromB s)))) = backV s := by unfold backV; rw [if_pos (by omega), show fromB s = 0 by omega, List.drop_zero, Nat.sub_zero, List.take_of_length_le (by omega)]
    rw [hbv]
    refine wc_region ?_
    refine wl_move rfl rfl ?_
    refine wl_move rfl rfl ?_
    have hC10 := hS4.split [] [false] rfl; dsimp only [selF, pickA, nthA, List.cons_append, List.nil_append] at hC10
    refine wl_call cal_78 rfl (r1Int_sp hC10 (backV s) (backV_in s)) rfl ?_
    rintro e w10 ⟨_, rfl, rfl, hS10⟩; refine ⟨_, rfl, ?_⟩
    replace hS10 := hS10.join rfl; dsimp only [List.dropLast, List.cons_append, List.nil_append] at hS10; clear hC10
    clear hS4
    refine wl_move rfl rfl ?_
    refine wl_concat rfl rfl (by first | omega | (simp; omega)) rfl ?_
    refine wl_eqlS rfl rfl rfl ?_
    refine wl_assign rfl rfl ?_
    refine wl_assign rfl rfl ?_
    refine wl_nil ?_
    refine qs_seq ?_
    refine wc_ret ?_
    refine fin2 (.inr rfl) rfl rfl rfl ?_
    exact ⟨_, rfl, backV s, _, by rw [back_cmp], backV_in s, (fun q => of_decide_eq_true q), (fun q => back_yes q), hS10⟩
  refine wc_skip ?_
  refine qs_seq ?_
  refine wc_seq ?_
  have hbv : backS 0 ((s.drop (fromB s)).take (j - fromB s)) = backV s := by have h1 := fromB_le1 s; unfold backV; rw [if_neg (by omega), show fromB s = 1 by omega, List.take_of_length_le (by simp; omega)]
  rw [hbv]
  refine wc_region ?_
  refine wl_move rfl rfl ?_
  refine wl_move rfl rfl ?_
  have hC11 := hS4.split [] [false] rfl; dsimp only [selF, pickA, nthA, List.cons_append, List.nil_append] at hC11
  refine wl_call cal_78 rfl (r1Int_sp hC11 (backV s) (backV_in s)) rfl ?_
  rintro e w11 ⟨_, rfl, rfl, hS11⟩; refine ⟨_, rfl, ?_⟩
  replace hS11 := hS11.join rfl; dsimp only [List.dropLast, List.cons_append, List.nil_append] at hS11; clear hC11
  clear hS4
  refine wl_move rfl rfl ?_
  refine wl_concat rfl rfl (by first | omega | (simp; omega)) rfl ?_
  refine wl_eqlS rfl rfl rfl ?_
  refine wl_assign rfl rfl ?_
  refine wl_assign rfl rfl ?_
  refine wl_nil ?_
  refine qs_seq ?_
  refine wc_sub (L' := [(3, _), (2, _)]) (.cons rfl (.cons rfl .nil)) ?_
  refine wc_ret ?_
  refine fin2 (.inr rfl) rfl rfl rfl ?_
  exact ⟨_, rfl, backV s, _, by rw [back_cmp], backV_in s, (fun q => of_decide_eq_true q), (fun q => back_yes q), hS11⟩
end Go.Proofs.YtcbdclhoekokpaaGreatDoor
