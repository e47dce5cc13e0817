/- reference 01: Num, Left, Texts; reference 28: ints, bit, Key -/
import Derived.Test.YtcbdclhoekokpaaGreatDoorPe0
import Derived.Test.YtcbdclhoekokpaaGreatDoorRz1
namespace Go.Proofs.YtcbdclhoekokpaaGreatDoor
open Go.RowKit M
set_option linter.unusedVariables false
theorem okR_bad {z : St} (h : OkR z) (q : z.2 = true) : z = ([], true) := by
  obtain ⟨a, b⟩ := z
  have h1 : a = [] := h q
  have h2 : b = true := q
  rw [h1, h2]
theorem okR_txs {z : St} (h : OkR z) : ∀ k, OkR (txSt k z)
  | 0 => by rw [txSt_zero]; exact h
  | k + 1 => by rw [txSt_succ]; exact (okR_txs h k).txt
theorem okR_ints {z : St} (h : OkR z) : ∀ k, OkR (intsR k z)
  | 0 => by rw [intsR_zero]; exact h
  | k + 1 => by rw [intsR_succ]; unfold iR; exact (okR_ints h k).num _ _
theorem okR_cut {z : St} (h : OkR z) (e : UInt8) : OkR (cutV e z) := by
  obtain ⟨a, b⟩ := z
  cases a with
  | nil => intro _; rfl
  | cons c a =>
    by_cases q : c = e
    · have e1 : cutV e (c :: a, b) = (a, b) := by unfold cutV; simp [q]
      rw [e1]; intro hb
      have : c :: a = [] := h hb
      cases this
    · have e1 : cutV e (c :: a, b) = ([], true) := by unfold cutV; simp [q]
      rw [e1]; intro _; rfl
theorem closeT {e : UInt8} {z : St} (h : closeB e z.1 = true) : cutV e z = (z.1.drop 1, z.2) := by obtain ⟨a, b⟩ := z; exact close_yes h
theorem closeF {e : UInt8} {z : St} (h : closeB e z.1 = false) : cutV e z = ([], true) := by obtain ⟨a, b⟩ := z; exact close_no h
theorem r1Left_sp {w : World} {F : Th} {b : Nat} {s : St} (hS : Sat w [readT b s, F]) :
    Calls Tryz.prog 92 #[ptrV b 0] w (Ret fun v w' => v = intV (s.1.length : Int) ∧ Sat w' [readT b s, F]) := by
  obtain ⟨r, q⟩ := s
  change Sat w [blkT b [strV r, .bool q], F] at hS
  refine calls_enter Tryz.func92 rfl Tryz.ntmps92 rfl ?_
  refine wc_seq ?_
  refine wc_region ?_
  refine wl_assign rfl rfl ?_
  refine wl_nil ?_
  refine qs_seq ?_
  refine wc_seq ?_
  refine wc_region ?_
  refine wl_move rfl rfl ?_
  refine wl_nilCheck rfl rfl ?_
  refine wl_fieldAddr rfl fo_141_0 rfl ?_
  refine wl_load rfl ag_9 (by first | assumption | exact hS.cell 0 rfl rfl) rfl ?_
  refine wl_lenS Tryz.underlying9 rfl rfl ?_
  refine wl_assign rfl rfl ?_
  refine wl_nil ?_
  refine qs_seq ?_
  refine wc_ret ?_
  refine fin1 (.inr rfl) rfl rfl ?_
  exact ⟨_, rfl, rfl, hS⟩
theorem r1RNum_sp {w : World} {F : Th} {b : Nat} {s : St} (hS : Sat w [readT b s, F]) (hrl : s.1.length ≤ 9223372036854775806) :
    Calls Tryz.prog 91 #[ptrV b 0] w (Ret fun v w' => v = intV (numV 59 0 s) ∧ Sat w' [readT b (numR 59 0 s), F]) := by
  refine calls_enter Tryz.func91 rfl Tryz.ntmps91 rfl ?_
  refine wc_seq ?_
  refine wc_region ?_
  refine wl_assign rfl rfl ?_
  refine wl_nil ?_
  refine qs_seq ?_
  refine wc_seq ?_
  refine wc_region ?_
  refine wl_move rfl rfl ?_
  have hC1 := hS.split [0] [true, false] rfl; dsimp only [selF, pickA, nthA, List.cons_append, List.nil_append] at hC1
  refine wl_call cal_118 rfl (r1Num_sp hC1 59 (by decide) hrl) rfl ?_
  rintro e w1 ⟨_, rfl, rfl, hS1⟩; refine ⟨_, rfl, ?_⟩
  replace hS1 := hS1.join rfl; dsimp only [List.dropLast, List.cons_append, List.nil_append] at hS1; clear hC1
  refine wl_assign rfl rfl ?_
  refine wl_nil ?_
  refine qs_seq ?_
  refine wc_ret ?_
  refine fin1 (.inr rfl) rfl rfl ?_
  exact ⟨_, rfl, rfl, hS1⟩
set_option maxRecDepth 100000 in
theorem r1RTexts_sp {w : World} {F : Th} {rb : Nat} {s : St} (hS : Sat w [readT rb s, F]) (hb : OkR s) (hrl : s.1.length ≤ 1000000) :
    Calls Tryz.prog 94 #[ptrV rb 0] w (Ret fun v w' => ∃ m, TxEnd (numV 91 0 s) (numR 91 0 s) m ∧ Sat w' [rowT stC v (txOut m s), readT rb (cutV 93 (txSt m (numR 91 0 s))), F]) := by
  refine calls_enter Tryz.func94 rfl Tryz.ntmps94 rfl ?_
  have hrn := numR_len 91 0 s
  have hnn := numV_nn 91 s
  refine wc_seq ?_
  refine wc_region ?_
  refine wl_assign rfl rfl ?_
  refine wl_nil ?_
  refine qs_seq ?_
  refine wc_seq ?_
  refine wc_region ?_
  refine wl_move rfl rfl ?_
  have hC1 := hS.split [0] [true, false] rfl; dsimp only [selF, pickA, nthA, List.cons_append, List.nil_append] at hC1
  refine wl_call cal_118 rfl (r1Num_sp hC1 91 (by decide) (by omega)) rfl ?_
  rintro e w1 ⟨_, rfl, rfl, hS1⟩; refine ⟨_, rfl, ?_⟩
  replace hS1 := hS1.join rfl; dsimp only [List.dropLast, List.cons_append, List.nil_append] at hS1; clear hC1
  refine wl_assign rfl rfl ?_
  refine wl_nil ?_
  refine qs_seq ?_
  refine wc_seq ?_
  refine wc_region ?_
  refine wl_assign rfl rfl ?_
  refine wl_nil ?_
  refine qs_seq ?_
  refine wc_seq ?_
  refine wc_seq ?_
  refine wc_region ?_
  refine wl_assign rfl rfl ?_
  refine wl_nil ?_
  refine qs_seq ?_
  refine wc_block ?_
  refine wc_loop (fun K0 E0 W0 => ∃ (i : Nat) (ov : Value), K0 = (numV 91 0 s).toNat - i ∧ E0 = [(0, ptrV rb 0), (3, intV (numV 91 0 s)), (4, ov), (5, intV (i : Int))] ∧ Sat W0 [readT rb (txSt i (numR 91 0 s)), rowT stC ov (txsV i (numR 91 0 s)), F] ∧ ((i : Int) ≤ (numV 91 0 s)) ∧ (∀ j, j < i → (txSt j (numR 91 0 s)).2 = false)) (L0 := [(0, _), (3, _), (4, _), (5, _)]) ((numV 91 0 s).toNat - 0) (.cons rfl (.cons rfl (.cons rfl (.cons rfl .nil)))) ⟨0, _, rfl, rfl, (by rw [txSt_zero, show txsV 0 (numR 91 0 s) = [] by simp [txsV]]; exact (hS1.row_nil stC).pick [1, 0, 2] rfl), by omega, by omega⟩ ?_
  rintro _ _ w2 ⟨i, ov, rfl, rfl, hS2, hi, hgd⟩
  have hfw := txs_few hgd
  have hln := txSt_len i (numR 91 0 s)
  have htl := txsV_len i (numR 91 0 s)
  have h1ov : ov.oneCell' = true := hS2.own_one 1 rfl
  have hnv := numV_in 91 0 s
  unfold inI at hnv
  have hok := okR_txs (hb.num 91 0) i
  refine wc_seq ?_
  refine wc_seq ?_
  refine wc_region ?_
  refine wl_move rfl rfl ?_
  refine wl_move rfl rfl ?_
  refine wl_lss rfl rfl rfl ?_
  refine wl_move rfl rfl ?_
  refine wl_splitD 11 rfl (fun h3 => ?_) (fun h3 => ?_)
  · skip
    refine wl_guard rfl rfl (decide_eq_true h3) ?_
    refine wl_move rfl rfl ?_
    refine wl_guard rfl rfl (decide_eq_true h3) ?_
    refine wl_nilCheck rfl rfl ?_
    refine wl_guard rfl rfl (decide_eq_true h3) ?_
    refine wl_fieldAddr rfl fo_141_1 rfl ?_
    refine wl_guard rfl rfl (decide_eq_true h3) ?_
    refine wl_load rfl ag_4 (hS2.cell 0 (o := 1) rfl rfl) rfl ?_
    refine wl_guard rfl rfl (decide_eq_true h3) ?_
    refine wl_not rfl rfl ?_
    refine wl_pickT rfl (decide_eq_true h3) rfl rfl ?_
    refine wl_nil ?_
    refine qs_seq ?_
    refine wc_sub (L' := [(17, _), (0, _), (3, _), (4, _), (5, _)]) (.cons rfl (.cons rfl (.cons rfl (.cons rfl (.cons rfl .nil))))) ?_
    refine wc_cond rfl (fun h4 => ?_) (fun h4 => ?_)
    · skip
      refine wc_skip ?_
      refine qs_seq ?_
      refine wc_seq ?_
      refine wc_block ?_
      refine wc_region ?_
      refine wl_move rfl rfl ?_
      refine wl_move rfl rfl ?_
      have hC5 := hS2.split [0] [true, false, false] rfl; dsimp only [selF, pickA, nthA, List.cons_append, List.nil_append] at hC5
      refine wl_call cal_93 rfl (r1RText_sp hC5 hok (by omega)) rfl ?_
      rintro e w5 ⟨_, rfl, rfl, hS5⟩; refine ⟨_, rfl, ?_⟩
      replace hS5 := hS5.join rfl; dsimp only [List.dropLast, List.cons_append, List.nil_append] at hS5; clear hC5
      clear hS2
      refine wl_rowBuild stC [txtV (txSt i (numR 91 0 s))] hS5 rfl Tryz.underlying31 ifz_9 rfl rfl rfl rfl (by first | rfl | simp [RowC.cells, fillL, splice]) rfl ?_
      intro b6 w6 hS6
      clear hS5
      refine wl_rowApp stC 2 hS6 rfl rfl rfl (hS6.rd 0 rfl (by simp)) Tryz.underlying31 Tryz.underlying31 (by intro k hk; cases hk) ifo_9 rfl (by simp only [List.length_cons, List.length_nil]; omega) rfl (by simp only [List.length_cons, List.length_nil]; omega) ?_
      intro v7 w7 hS7; dsimp only [List.set] at hS7
      clear hS6
      have h1v7 : v7.oneCell' = true := hS7.own_one 2 rfl
      refine wl_assign rfl rfl ?_
      refine wl_nil ?_
      refine qs_block_normal ?_
      refine qs_seq ?_
      refine wc_region ?_
      refine wl_move rfl rfl ?_
      refine wl_add rfl rfl (by first | omega | (simp; omega)) (by first | omega | (simp; omega)) rfl ?_
      refine wl_assign rfl rfl ?_
      refine wl_nil ?_
      exact qs_round (L1 := [(0, _), (3, _), (4, _), (5, intV ((i + 1 : Nat) : Int))]) (.cons rfl (.cons rfl (.cons rfl (.cons rfl .nil)))) (k1 := (numV 91 0 s).toNat - (i + 1)) (by omega) ⟨i + 1, _, rfl, rfl, (by rw [txsV_succ, txSt_succ]; exact hS7.pick [1, 2, 3] rfl), by omega, fun j hj => by by_cases e : j = i; (subst e; simpa using (by assumption : (!(txSt j (numR 91 0 s)).2) = true)); exact hgd j (by omega)⟩
    refine wc_exit ?_
    refine qs_then_exit ?_
    refine qs_then_exit ?_
    refine qs_block_exit ?_
    refine qs_seq ?_
    refine wc_seq ?_
    refine wc_seq ?_
    refine wc_region ?_
    refine wl_move rfl rfl ?_
    refine wl_nilCheck rfl rfl ?_
    refine wl_fieldAddr rfl fo_141_1 rfl ?_
    refine wl_load rfl ag_4 (hS2.cell 0 (o := 1) rfl rfl) rfl ?_
    refine wl_move rfl rfl ?_
    refine wl_split 29 rfl (fun h8 => ?_) (fun h8 => ?_)
    · skip
      refine wl_unwanted rfl rfl h8 rfl ?_
      refine wl_unwanted rfl rfl h8 rfl ?_
      refine wl_unwanted rfl rfl h8 rfl ?_
      refine wl_pickT rfl h8 rfl rfl ?_
      refine wl_nil ?_
      refine qs_seq ?_
      refine wc_sub (L' := [(33, _), (4, _)]) (.cons rfl (.cons rfl .nil)) ?_
      refine wc_condT rfl ?_
      refine wc_seq ?_
      refine wc_region ?_
      refine wl_assign rfl rfl ?_
      refine wl_nil ?_
      refine qs_seq ?_
      refine wc_ret ?_
      refine qs_then_ret ?_
      refine fin1 (.inr rfl) rfl rfl ?_
      have hend : TxEnd (numV 91 0 s) (numR 91 0 s) i := ⟨by omega, hgd, by first | (left; omega) | (right; simpa using (by assumption : (!(txSt i (numR 91 0 s)).2) = false))⟩
      have hz := okR_bad hok (by simpa using (by assumption : (txSt i (numR 91 0 s)).2 = true))
      exact ⟨_, rfl, i, hend, by unfold txOut; rw [if_pos (by rw [hz]; rfl)]; refine Sat.row_nil stC ?_; rw [show cutV 93 (txSt i (numR 91 0 s)) = (txSt i (numR 91 0 s)) by rw [hz]; rfl]; exact hS2.pick [0, 2] rfl⟩
    refine wl_guard rfl rfl h8 ?_
    refine wl_move rfl rfl ?_
    refine wl_guard rfl rfl h8 ?_
    have hC9 := hS2.split [0] [true, false, false] rfl; dsimp only [selF, pickA, nthA, List.cons_append, List.nil_append] at hC9
    refine wl_call cal_120 rfl (r1Close_sp hC9 93) rfl ?_
    rintro e w9 ⟨_, rfl, rfl, hS9⟩; refine ⟨_, rfl, ?_⟩
    replace hS9 := hS9.join rfl; dsimp only [List.dropLast, List.cons_append, List.nil_append] at hS9; clear hC9
    clear hS2
    refine wl_guard rfl rfl h8 ?_
    refine wl_not rfl rfl ?_
    refine wl_pickF rfl h8 rfl rfl ?_
    refine wl_nil ?_
    refine qs_seq ?_
    refine wc_sub (L' := [(33, _), (4, _)]) (.cons rfl (.cons rfl .nil)) ?_
    refine wc_cond rfl (fun h10 => ?_) (fun h10 => ?_)
    · skip
      refine wc_seq ?_
      refine wc_region ?_
      refine wl_assign rfl rfl ?_
      refine wl_nil ?_
      refine qs_seq ?_
      refine wc_ret ?_
      refine qs_then_ret ?_
      refine fin1 (.inr rfl) rfl rfl ?_
      have hend : TxEnd (numV 91 0 s) (numR 91 0 s) i := ⟨by omega, hgd, by first | (left; omega) | (right; simpa using (by assumption : (!(txSt i (numR 91 0 s)).2) = false))⟩
      have hz := closeF (z := (txSt i (numR 91 0 s))) (e := 93) (by simpa using h10)
      exact ⟨_, rfl, i, hend, by unfold txOut; rw [if_pos (by rw [hz])]; exact (hS9.pick [0, 2] rfl).row_nil stC⟩
    refine wc_skip ?_
    refine qs_seq ?_
    refine wc_seq ?_
    refine wc_region ?_
    refine wl_move rfl rfl ?_
    refine wl_assign rfl rfl ?_
    refine wl_nil ?_
    refine qs_seq ?_
    refine wc_ret ?_
    refine fin1 (.inr rfl) rfl rfl ?_
    have hend : TxEnd (numV 91 0 s) (numR 91 0 s) i := ⟨by omega, hgd, by first | (left; omega) | (right; simpa using (by assumption : (!(txSt i (numR 91 0 s)).2) = false))⟩
    have hz := closeT (z := (txSt i (numR 91 0 s))) (e := 93) (by simpa using h10)
    have hq : (txSt i (numR 91 0 s)).2 = false := by simpa using (by assumption : (txSt i (numR 91 0 s)).2 = false)
    exact ⟨_, rfl, i, hend, by unfold txOut; rw [if_neg (by rw [hz, hq]; simp)]; exact hS9.pick [1, 0, 2] rfl⟩
  refine wl_unwanted rfl rfl (decide_eq_false h3) rfl ?_
  refine wl_unwanted rfl rfl (decide_eq_false h3) rfl ?_
  refine wl_unwanted rfl rfl (decide_eq_false h3) rfl ?_
  refine wl_unwanted rfl rfl (decide_eq_false h3) rfl ?_
  refine wl_unwanted rfl rfl (decide_eq_false h3) rfl ?_
  refine wl_pickF rfl (decide_eq_false h3) rfl rfl ?_
  refine wl_nil ?_
  refine qs_seq ?_
  refine wc_sub (L' := [(17, _), (0, _), (3, _), (4, _), (5, _)]) (.cons rfl (.cons rfl (.cons rfl (.cons rfl (.cons rfl .nil))))) ?_
  refine wc_condF rfl ?_
  refine wc_exit ?_
  refine qs_then_exit ?_
  refine qs_then_exit ?_
  refine qs_block_exit ?_
  refine qs_seq ?_
  refine wc_seq ?_
  refine wc_seq ?_
  refine wc_region ?_
  refine wl_move rfl rfl ?_
  refine wl_nilCheck rfl rfl ?_
  refine wl_fieldAddr rfl fo_141_1 rfl ?_
  refine wl_load rfl ag_4 (hS2.cell 0 (o := 1) rfl rfl) rfl ?_
  refine wl_move rfl rfl ?_
  refine wl_split 29 rfl (fun h11 => ?_) (fun h11 => ?_)
  · skip
    refine wl_unwanted rfl rfl h11 rfl ?_
    refine wl_unwanted rfl rfl h11 rfl ?_
    refine wl_unwanted rfl rfl h11 rfl ?_
    refine wl_pickT rfl h11 rfl rfl ?_
    refine wl_nil ?_
    refine qs_seq ?_
    refine wc_sub (L' := [(33, _), (4, _)]) (.cons rfl (.cons rfl .nil)) ?_
    refine wc_condT rfl ?_
    refine wc_seq ?_
    refine wc_region ?_
    refine wl_assign rfl rfl ?_
    refine wl_nil ?_
    refine qs_seq ?_
    refine wc_ret ?_
    refine qs_then_ret ?_
    refine fin1 (.inr rfl) rfl rfl ?_
    have hend : TxEnd (numV 91 0 s) (numR 91 0 s) i := ⟨by omega, hgd, by first | (left; omega) | (right; simpa using (by assumption : (!(txSt i (numR 91 0 s)).2) = false))⟩
    have hz := okR_bad hok (by simpa using (by assumption : (txSt i (numR 91 0 s)).2 = true))
    exact ⟨_, rfl, i, hend, by unfold txOut; rw [if_pos (by rw [hz]; rfl)]; refine Sat.row_nil stC ?_; rw [show cutV 93 (txSt i (numR 91 0 s)) = (txSt i (numR 91 0 s)) by rw [hz]; rfl]; exact hS2.pick [0, 2] rfl⟩
  refine wl_guard rfl rfl h11 ?_
  refine wl_move rfl rfl ?_
  refine wl_guard rfl rfl h11 ?_
  have hC12 := hS2.split [0] [true, false, false] rfl; dsimp only [selF, pickA, nthA, List.cons_append, List.nil_append] at hC12
  refine wl_call cal_120 rfl (r1Close_sp hC12 93) rfl ?_
  rintro e w12 ⟨_, rfl, rfl, hS12⟩; refine ⟨_, rfl, ?_⟩
  replace hS12 := hS12.join rfl; dsimp only [List.dropLast, List.cons_append, List.nil_append] at hS12; clear hC12
  clear hS2
  refine wl_guard rfl rfl h11 ?_
  refine wl_not rfl rfl ?_
  refine wl_pickF rfl h11 rfl rfl ?_
  refine wl_nil ?_
  refine qs_seq ?_
  refine wc_sub (L' := [(33, _), (4, _)]) (.cons rfl (.cons rfl .nil)) ?_
  refine wc_cond rfl (fun h13 => ?_) (fun h13 => ?_)
  · skip
    refine wc_seq ?_
    refine wc_region ?_
    refine wl_assign rfl rfl ?_
    refine wl_nil ?_
    refine qs_seq ?_
    refine wc_ret ?_
    refine qs_then_ret ?_
    refine fin1 (.inr rfl) rfl rfl ?_
    have hend : TxEnd (numV 91 0 s) (numR 91 0 s) i := ⟨by omega, hgd, by first | (left; omega) | (right; simpa using (by assumption : (!(txSt i (numR 91 0 s)).2) = false))⟩
    have hz := closeF (z := (txSt i (numR 91 0 s))) (e := 93) (by simpa using h13)
    exact ⟨_, rfl, i, hend, by unfold txOut; rw [if_pos (by rw [hz])]; exact (hS12.pick [0, 2] rfl).row_nil stC⟩
  refine wc_skip ?_
  refine qs_seq ?_
  refine wc_seq ?_
  refine wc_region ?_
  refine wl_move rfl rfl ?_
  refine wl_assign rfl rfl ?_
  refine wl_nil ?_
  refine qs_seq ?_
  refine wc_ret ?_
  refine fin1 (.inr rfl) rfl rfl ?_
  have hend : TxEnd (numV 91 0 s) (numR 91 0 s) i := ⟨by omega, hgd, by first | (left; omega) | (right; simpa using (by assumption : (!(txSt i (numR 91 0 s)).2) = false))⟩
  have hz := closeT (z := (txSt i (numR 91 0 s))) (e := 93) (by simpa using h13)
  have hq : (txSt i (numR 91 0 s)).2 = false := by simpa using (by assumption : (txSt i (numR 91 0 s)).2 = false)
  exact ⟨_, rfl, i, hend, by unfold txOut; rw [if_neg (by rw [hz, hq]; simp)]; exact hS12.pick [1, 0, 2] rfl⟩
theorem r1WNum_sp {w : World} {F : Th} (hS : Sat w [F]) (n : Int) (hn : inI n) (h0 : 0 ≤ n) :
    Calls Tryz.prog 79 #[intV n] w (Ret fun v w' => v = strV (encN n) ∧ Sat w' [F]) := by
  refine calls_enter Tryz.func79 rfl Tryz.ntmps79 rfl ?_
  refine wc_seq ?_
  refine wc_region ?_
  refine wl_assign rfl rfl ?_
  refine wl_nil ?_
  refine qs_seq ?_
  refine wc_seq ?_
  refine wc_seq ?_
  refine wc_region ?_
  refine wl_move rfl rfl ?_
  refine wl_lss rfl rfl rfl ?_
  refine wl_nil ?_
  refine qs_seq ?_
  refine wc_condD rfl (fun h1 => ?_) (fun h1 => ?_)
  · skip
    exact absurd h1 (by omega)
  refine wc_skip ?_
  refine qs_seq ?_
  refine wc_seq ?_
  refine wc_region ?_
  refine wl_move rfl rfl ?_
  have hC2 := hS.split [] [false] rfl; dsimp only [selF, pickA, nthA, List.cons_append, List.nil_append] at hC2
  refine wl_call cal_78 rfl (r1Int_sp hC2 n hn) rfl ?_
  rintro e w2 ⟨_, rfl, rfl, hS2⟩; refine ⟨_, rfl, ?_⟩
  replace hS2 := hS2.join rfl; dsimp only [List.dropLast, List.cons_append, List.nil_append] at hS2; clear hC2
  refine wl_assign rfl rfl ?_
  refine wl_nil ?_
  refine qs_seq ?_
  refine wc_ret ?_
  refine fin1 (.inr rfl) rfl rfl ?_
  exact ⟨_, rfl, rfl, hS2⟩
set_option maxRecDepth 100000 in
theorem r1WTexts_sp {w : World} {F : Th} (hS : Sat w [F]) {lv : Value} {l : List Bs} (hL : Ent F (RdL stC lv l)) (hln : l.length ≤ 1000000) (hok : ∀ x ∈ l, x.length ≤ 1000000) :
    Calls Tryz.prog 82 #[lv] w (Ret fun v w' => v = strV (encTs l) ∧ Sat w' [F]) := by
  obtain ⟨ao, cap, rfl, hmax⟩ := (hL.sat hS 0 rfl).shape
  refine calls_enter Tryz.func82 rfl Tryz.ntmps82 rfl ?_
  have hil := (itoa_len (n := (l.length : Int)) (by unfold inI; omega)).1
  have hhl : (Lib.itoa (l.length : Int) ++ [91]).length = (Lib.itoa (l.length : Int)).length + 1 := by simp
  refine wc_seq ?_
  refine wc_region ?_
  refine wl_assign rfl rfl ?_
  refine wl_nil ?_
  refine qs_seq ?_
  refine wc_seq ?_
  refine wc_region ?_
  refine wl_move rfl rfl ?_
  refine wl_lenL Tryz.underlying31 rfl rfl ?_
  refine wl_neg rfl (by first | omega | (simp only [List.length_append, List.length_cons, List.length_nil]; omega) | (simp; omega)) (by first | omega | (simp only [List.length_append, List.length_cons, List.length_nil]; omega) | (simp; omega)) rfl ?_
  have hC1 := hS.split [] [false] rfl; dsimp only [selF, pickA, nthA, List.cons_append, List.nil_append] at hC1
  refine wl_call cal_111 rfl (digits_sp' hC1 (-(l.length : Int)) l.length rfl (by omega)) rfl ?_
  rintro e w1 ⟨_, rfl, rfl, hS1⟩; refine ⟨_, rfl, ?_⟩
  replace hS1 := hS1.join rfl; dsimp only [List.dropLast, List.cons_append, List.nil_append] at hS1; clear hC1
  have hdl := decDigits_len l.length (by omega)
  rw [← Lib.itoa_nonneg]
  refine wl_concat rfl rfl (by first | omega | (simp only [List.length_append, List.length_cons, List.length_nil]; omega) | (simp; omega)) rfl ?_
  refine wl_assign rfl rfl ?_
  refine wl_nil ?_
  refine qs_seq ?_
  refine wc_seq ?_
  refine wc_seq ?_
  refine wc_region ?_
  refine wl_assign rfl rfl ?_
  refine wl_nil ?_
  refine qs_seq ?_
  refine wc_block ?_
  refine wc_loop (fun K0 E0 W0 => ∃ (i : Nat), K0 = l.length - i ∧ E0 = [(0, .slice ao l.length cap), (3, strV ((Lib.itoa (l.length : Int) ++ [91]) ++ (l.take i).flatMap encT)), (4, intV (i : Int))] ∧ Sat W0 [F] ∧ (i ≤ l.length) ∧ (((l.take i).flatMap encT).length ≤ 1000040 * i)) (L0 := [(0, _), (3, _), (4, _)]) (l.length - 0) (.cons rfl (.cons rfl (.cons rfl .nil))) ⟨0, rfl, by rw [List.take_zero, List.flatMap_nil, List.append_nil]; rfl, hS1, by omega, by simp⟩ ?_
  rintro _ _ w2 ⟨i, rfl, rfl, hS2, hi, hbl⟩
  refine wc_seq ?_
  refine wc_seq ?_
  refine wc_region ?_
  refine wl_move rfl rfl ?_
  refine wl_move rfl rfl ?_
  refine wl_lenL Tryz.underlying31 rfl rfl ?_
  refine wl_lss rfl rfl rfl ?_
  refine wl_nil ?_
  refine qs_seq ?_
  refine wc_condD rfl (fun h3 => ?_) (fun h3 => ?_)
  · skip
    obtain ⟨x, hx⟩ : ∃ x, l[i]? = some x := ⟨_, List.getElem?_eq_getElem (by omega)⟩
    obtain ⟨b, off, rfl, hc⟩ := (hL.sat hS2 0 rfl).get hx
    have hxl := hok x (List.mem_of_getElem? hx)
    have htl := encT_len hxl
    refine wc_skip ?_
    refine qs_seq ?_
    refine wc_seq ?_
    refine wc_block ?_
    refine wc_region ?_
    refine wl_move rfl rfl ?_
    refine wl_move rfl rfl ?_
    refine wl_move rfl rfl ?_
    refine wl_indexAddr i rfl rfl (by first | rfl | omega) (by omega) es_31 rfl ?_
    refine wl_load rfl ag_9 (hc 0 _ rfl) rfl ?_
    have hC4 := hS2.split [] [false] rfl; dsimp only [selF, pickA, nthA, List.cons_append, List.nil_append] at hC4
    refine wl_call cal_80 rfl (r1Text_sp hC4 x hxl) rfl ?_
    rintro e w4 ⟨_, rfl, rfl, hS4⟩; refine ⟨_, rfl, ?_⟩
    replace hS4 := hS4.join rfl; dsimp only [List.dropLast, List.cons_append, List.nil_append] at hS4; clear hC4
    clear hS2
    refine wl_concat rfl rfl (by first | omega | (simp only [List.length_append, List.length_cons, List.length_nil]; omega) | (simp; omega)) rfl ?_
    refine wl_assign rfl rfl ?_
    refine wl_nil ?_
    refine qs_block_normal ?_
    refine qs_seq ?_
    refine wc_sub (L' := [(3, _), (0, _), (4, _)]) (.cons rfl (.cons rfl (.cons rfl .nil))) ?_
    refine wc_region ?_
    refine wl_move rfl rfl ?_
    refine wl_add rfl rfl (by first | omega | (simp only [List.length_append, List.length_cons, List.length_nil]; omega) | (simp; omega)) (by first | omega | (simp only [List.length_append, List.length_cons, List.length_nil]; omega) | (simp; omega)) rfl ?_
    refine wl_assign rfl rfl ?_
    refine wl_nil ?_
    exact qs_round (L1 := [(0, _), (3, _), (4, intV ((i + 1 : Nat) : Int))]) (.cons rfl (.cons rfl (.cons rfl .nil))) (k1 := l.length - (i + 1)) (by omega) ⟨i + 1, rfl, by rw [encT_succ hx, ← List.append_assoc], hS4, by omega, by rw [encT_succ hx, List.length_append]; omega⟩
  refine wc_exit ?_
  refine qs_then_exit ?_
  refine qs_then_exit ?_
  refine qs_block_exit ?_
  refine qs_seq ?_
  refine wc_seq ?_
  refine wc_region ?_
  refine wl_move rfl rfl ?_
  refine wl_concat rfl rfl (by first | omega | (simp only [List.length_append, List.length_cons, List.length_nil]; omega) | (simp; omega)) rfl ?_
  refine wl_assign rfl rfl ?_
  refine wl_nil ?_
  refine qs_seq ?_
  refine wc_ret ?_
  refine fin1 (.inr rfl) rfl rfl ?_
  exact ⟨_, rfl, by rw [List.take_of_length_le (by omega)]; rfl, hS2⟩
set_option maxRecDepth 100000 in
theorem qints_sp {w : World} {F : Th} (hS : Sat w [F]) {lv : Value} {l : List Int} (hL : Ent F (RdL inC lv l)) (hI : ∀ n ∈ l, inI n) (hl : l.length ≤ 1000) :
    Calls Tryz.prog 77 #[lv] w (Ret fun v w' => v = strV (encIs l) ∧ Sat w' [F]) := by
  obtain ⟨ao, cap, rfl, hmax⟩ := (hL.sat hS 0 rfl).shape
  refine calls_enter Tryz.func77 rfl Tryz.ntmps77 rfl ?_
  refine wc_seq ?_
  refine wc_region ?_
  refine wl_assign rfl rfl ?_
  refine wl_nil ?_
  refine qs_seq ?_
  refine wc_seq ?_
  refine wc_region ?_
  refine wl_assign rfl rfl ?_
  refine wl_nil ?_
  refine qs_seq ?_
  refine wc_seq ?_
  refine wc_seq ?_
  refine wc_region ?_
  refine wl_assign rfl rfl ?_
  refine wl_nil ?_
  refine qs_seq ?_
  refine wc_block ?_
  refine wc_loop (fun K0 E0 W0 => ∃ (i : Nat), K0 = l.length - i ∧ E0 = [(0, .slice ao l.length cap), (3, strV (encIs (l.take i))), (4, intV (i : Int))] ∧ Sat W0 [F] ∧ (i ≤ l.length)) (L0 := [(0, _), (3, _), (4, _)]) (l.length - 0) (.cons rfl (.cons rfl (.cons rfl .nil))) ⟨0, rfl, rfl, hS, by omega⟩ ?_
  rintro _ _ w1 ⟨i, rfl, rfl, hS1, hi⟩
  have hel := encIs_len (l := l.take i) (fun n hn => hI n (List.mem_of_mem_take hn))
  have htl : (l.take i).length ≤ l.length := by rw [List.length_take]; omega
  refine wc_seq ?_
  refine wc_seq ?_
  refine wc_region ?_
  refine wl_move rfl rfl ?_
  refine wl_move rfl rfl ?_
  refine wl_lenL Tryz.underlying46 rfl rfl ?_
  refine wl_lss rfl rfl rfl ?_
  refine wl_nil ?_
  refine qs_seq ?_
  refine wc_condD rfl (fun h2 => ?_) (fun h2 => ?_)
  · skip
    obtain ⟨n, hn⟩ : ∃ n, l[i]? = some n := ⟨_, List.getElem?_eq_getElem (by omega)⟩
    obtain ⟨b, off, rfl, hc⟩ := (hL.sat hS1 0 rfl).get hn
    have hni := hI n (List.mem_of_getElem? hn)
    have hnl := encN_len hni
    refine wc_skip ?_
    refine qs_seq ?_
    refine wc_seq ?_
    refine wc_block ?_
    refine wc_region ?_
    refine wl_move rfl rfl ?_
    refine wl_move rfl rfl ?_
    refine wl_move rfl rfl ?_
    refine wl_indexAddr i rfl rfl (by first | rfl | omega) (by omega) es_46 rfl ?_
    refine wl_load rfl ag_3 (hc 0 _ rfl) rfl ?_
    have hC3 := hS1.split [] [false] rfl; dsimp only [selF, pickA, nthA, List.cons_append, List.nil_append] at hC3
    refine wl_call cal_78 rfl (r1Int_sp hC3 n hni) rfl ?_
    rintro e w3 ⟨_, rfl, rfl, hS3⟩; refine ⟨_, rfl, ?_⟩
    replace hS3 := hS3.join rfl; dsimp only [List.dropLast, List.cons_append, List.nil_append] at hS3; clear hC3
    clear hS1
    rw [show Lib.itoa n ++ [59] = encN n from rfl]
    refine wl_concat rfl rfl (by first | omega | (simp; omega)) rfl ?_
    refine wl_assign rfl rfl ?_
    refine wl_nil ?_
    refine qs_block_normal ?_
    refine qs_seq ?_
    refine wc_sub (L' := [(3, _), (0, _), (4, _)]) (.cons rfl (.cons rfl (.cons rfl .nil))) ?_
    refine wc_region ?_
    refine wl_move rfl rfl ?_
    refine wl_add rfl rfl (by first | omega | (simp; omega)) (by first | omega | (simp; omega)) rfl ?_
    refine wl_assign rfl rfl ?_
    refine wl_nil ?_
    exact qs_round (L1 := [(0, _), (3, _), (4, intV ((i + 1 : Nat) : Int))]) (.cons rfl (.cons rfl (.cons rfl .nil))) (k1 := l.length - (i + 1)) (by omega) ⟨i + 1, rfl, by rw [encIs_succ hn], hS3, by omega⟩
  refine wc_exit ?_
  refine qs_then_exit ?_
  refine qs_then_exit ?_
  refine qs_block_exit ?_
  refine qs_seq ?_
  refine wc_seq ?_
  refine wc_region ?_
  refine wl_move rfl rfl ?_
  refine wl_assign rfl rfl ?_
  refine wl_nil ?_
  refine qs_seq ?_
  refine wc_ret ?_
  refine fin1 (.inr rfl) rfl rfl ?_
  exact ⟨_, rfl, by rw [List.take_of_length_le (by omega)], hS1⟩
theorem qbit_sp {w : World} {F : Th} (hS : Sat w [F]) (b : Bool) :
    Calls Tryz.prog 81 #[.bool b] w (Ret fun v w' => v = intV (bitN b) ∧ Sat w' [F]) := by
  refine calls_enter Tryz.func81 rfl Tryz.ntmps81 rfl ?_
  refine wc_seq ?_
  refine wc_region ?_
  refine wl_assign rfl rfl ?_
  refine wl_nil ?_
  refine qs_seq ?_
  refine wc_seq ?_
  refine wc_seq ?_
  refine wc_region ?_
  refine wl_move rfl rfl ?_
  refine wl_nil ?_
  refine qs_seq ?_
  refine wc_cond rfl (fun h1 => ?_) (fun h1 => ?_)
  · skip
    refine wc_seq ?_
    refine wc_region ?_
    refine wl_assign rfl rfl ?_
    refine wl_nil ?_
    refine qs_seq ?_
    refine wc_ret ?_
    refine qs_then_ret ?_
    refine fin1 (.inr rfl) rfl rfl ?_
    exact ⟨_, rfl, by unfold bitN; simp_all, hS⟩
  refine wc_skip ?_
  refine qs_seq ?_
  refine wc_seq ?_
  refine wc_region ?_
  refine wl_assign rfl rfl ?_
  refine wl_nil ?_
  refine qs_seq ?_
  refine wc_ret ?_
  refine fin1 (.inr rfl) rfl rfl ?_
  exact ⟨_, rfl, by unfold bitN; simp_all, hS⟩
set_option maxRecDepth 100000 in
theorem qkey_sp {w : World} {F : Th} (hS : Sat w [F]) (pid : Int) :
    Calls Tryz.prog 38 #[intV pid] w (Ret fun v w' => v = strV (keyP pid) ∧ Sat w' [F]) := by
  refine calls_enter Tryz.func38 rfl Tryz.ntmps38 rfl ?_
  refine wc_seq ?_
  refine wc_region ?_
  refine wl_assign rfl rfl ?_
  refine wl_nil ?_
  refine qs_seq ?_
  refine wc_seq ?_
  refine wc_seq ?_
  refine wc_region ?_
  refine wl_move rfl rfl ?_
  refine wl_lss rfl rfl rfl ?_
  refine wl_move rfl rfl ?_
  refine wl_splitD 7 rfl (fun h1 => ?_) (fun h1 => ?_)
  · skip
    refine wl_unwanted rfl rfl (decide_eq_true h1) rfl ?_
    refine wl_unwanted rfl rfl (decide_eq_true h1) rfl ?_
    refine wl_pickT rfl (decide_eq_true h1) rfl rfl ?_
    refine wl_nil ?_
    refine qs_seq ?_
    refine wc_condT rfl ?_
    refine wc_seq ?_
    refine wc_region ?_
    refine wl_assign rfl rfl ?_
    refine wl_nil ?_
    refine qs_seq ?_
    refine wc_ret ?_
    refine qs_then_ret ?_
    refine fin1 (.inr rfl) rfl rfl ?_
    exact ⟨_, rfl, by rw [keyP_nil.2 (by omega)], hS.pick [0] rfl⟩
  refine wl_guard rfl rfl (decide_eq_false h1) ?_
  refine wl_move rfl rfl ?_
  refine wl_guard rfl rfl (decide_eq_false h1) ?_
  refine wl_gtr rfl rfl rfl ?_
  refine wl_pickF rfl (decide_eq_false h1) rfl rfl ?_
  refine wl_nil ?_
  refine qs_seq ?_
  refine wc_condD rfl (fun h2 => ?_) (fun h2 => ?_)
  · skip
    refine wc_seq ?_
    refine wc_region ?_
    refine wl_assign rfl rfl ?_
    refine wl_nil ?_
    refine qs_seq ?_
    refine wc_ret ?_
    refine qs_then_ret ?_
    refine fin1 (.inr rfl) rfl rfl ?_
    exact ⟨_, rfl, by rw [keyP_nil.2 (by omega)], hS.pick [0] rfl⟩
  obtain ⟨u, rfl⟩ : ∃ u : Nat, pid = (u : Int) := ⟨pid.toNat, by omega⟩
  refine wc_skip ?_
  refine qs_seq ?_
  refine wc_seq ?_
  refine wc_region ?_
  refine wl_assign rfl rfl ?_
  refine wl_nil ?_
  refine qs_seq ?_
  refine wc_seq ?_
  refine wc_seq ?_
  refine wc_region ?_
  refine wl_assign rfl rfl ?_
  refine wl_nil ?_
  refine qs_seq ?_
  refine wc_block ?_
  refine wc_loop (fun K0 E0 W0 => ∃ (i m : Nat) (q : Bs), K0 = 6 - i ∧ E0 = [(0, intV (m : Int)), (3, strV q), (4, intV (i : Int))] ∧ Sat W0 [F] ∧ (i ≤ 6) ∧ (padD (6 - i) m ++ q = padD 6 u) ∧ (m ≤ 999999) ∧ (q.length = i)) (L0 := [(0, _), (3, _), (4, _)]) (6 - 0) (.cons rfl (.cons rfl (.cons rfl .nil))) ⟨0, u, [], rfl, rfl, hS, by omega, by simp, by omega, rfl⟩ ?_
  rintro _ _ w3 ⟨i, m, q, rfl, rfl, hS3, hi, hq, hm, hql⟩
  refine wc_seq ?_
  refine wc_seq ?_
  refine wc_region ?_
  refine wl_move rfl rfl ?_
  refine wl_lss rfl rfl rfl ?_
  refine wl_nil ?_
  refine qs_seq ?_
  refine wc_condD rfl (fun h4 => ?_) (fun h4 => ?_)
  · skip
    refine wc_skip ?_
    refine qs_seq ?_
    refine wc_seq ?_
    refine wc_block ?_
    refine wc_seq ?_
    refine wc_region ?_
    refine wl_move rfl rfl ?_
    refine wl_rem rfl rfl (by first | omega | (simp; omega)) (by first | omega | (simp; omega)) rfl ?_
    refine wl_add rfl rfl (by first | omega | (simp; omega)) (by first | omega | (simp; omega)) rfl ?_
    refine wl_convToU8 (48 + m % 10) Tryz.underlying3 Tryz.underlying5 rfl (by first | rfl | omega) rfl ?_
    refine wl_rowBuild byC [UInt8.ofNat (48 + m % 10)] hS3 rfl Tryz.underlying99 ifz_5 rfl rfl rfl rfl (by first | rfl | simp [RowC.cells, fillL, splice]) rfl ?_
    intro b5 w5 hS5
    clear hS3
    refine wl_rowStr 0 hS5 rfl rfl Tryz.underlying99 Tryz.underlying5 Tryz.underlying9 rfl ?_
    refine wl_move rfl rfl ?_
    refine wl_concat rfl rfl (by first | omega | (simp; omega)) rfl ?_
    refine wl_assign rfl rfl ?_
    refine wl_nil ?_
    refine qs_seq ?_
    refine wc_sub (L' := [(3, _), (0, _), (4, _)]) (.cons rfl (.cons rfl (.cons rfl .nil))) ?_
    refine wc_region ?_
    refine wl_move rfl rfl ?_
    refine wl_quo rfl rfl (by first | omega | (simp; omega)) (by first | omega | (simp; omega)) (by first | omega | (simp; omega)) rfl ?_
    refine wl_assign rfl rfl ?_
    refine wl_nil ?_
    refine qs_block_normal ?_
    refine qs_seq ?_
    refine wc_region ?_
    refine wl_move rfl rfl ?_
    refine wl_add rfl rfl (by first | omega | (simp; omega)) (by first | omega | (simp; omega)) rfl ?_
    refine wl_assign rfl rfl ?_
    refine wl_nil ?_
    exact qs_round (L1 := [(0, _), (3, _), (4, intV ((i + 1 : Nat) : Int))]) (.cons rfl (.cons rfl (.cons rfl .nil))) (k1 := 6 - (i + 1)) (by omega) ⟨i + 1, m / 10, _, rfl, by rw [show (m : Int) / 10 = ((m / 10 : Nat) : Int) by omega], hS5.pick [1] rfl, by omega, by rw [show 6 - i = (6 - (i + 1)) + 1 by omega, padD] at hq; simpa using hq, by omega, by simp; omega⟩
  refine wc_exit ?_
  refine qs_then_exit ?_
  refine qs_then_exit ?_
  refine qs_block_exit ?_
  refine qs_seq ?_
  refine wc_seq ?_
  refine wc_region ?_
  refine wl_move rfl rfl ?_
  refine wl_concat rfl rfl (by first | omega | (simp; omega)) rfl ?_
  refine wl_assign rfl rfl ?_
  refine wl_nil ?_
  refine qs_seq ?_
  refine wc_ret ?_
  refine fin1 (.inr rfl) rfl rfl ?_
  have hq6 : q = padD 6 u := by rw [← hq, show 6 - i = 0 by omega]; rfl
  exact ⟨_, rfl, by rw [keyP_pad (by omega), hq6]; rfl, hS3.pick [0] rfl⟩
end Go.Proofs.YtcbdclhoekokpaaGreatDoor
