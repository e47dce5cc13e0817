/- procs: Texts read; the closures of Read -/
import Derived.Test.YtcbdclhoekokpaaGreatDoorPc2
namespace Go.Proofs.YtcbdclhoekokpaaGreatDoor
open Go.RowKit M
set_option linter.unusedVariables false
theorem iV_eq (s : St) : numV 59 (-9223372036854775808) s = iV s := by unfold iV; rfl
theorem iR_eq (s : St) : numR 59 (-9223372036854775808) s = iR s := by unfold iR; rfl
theorem txR_dec {s : St} (h : (txtR s).2 = false) : (txtR s).1.length + 1 ≤ s.1.length := by
  obtain ⟨h1, h2⟩ := good_txt h
  have := congrArg (fun q : St => q.1.length) h1
  simp only [List.length_append] at this
  have h7 : 1 ≤ (encT (txtV s)).length := by simp [encT]; omega
  omega
theorem txSt_succ (k : Nat) (s : St) : txSt (k + 1) s = txtR (txSt k s) := by simp only [txSt]
theorem txSt_zero (s : St) : txSt 0 s = s := by simp only [txSt]
theorem txs_count {s : St} : ∀ (i : Nat), (∀ j, j < i + 1 → (txSt j s).2 = false) → i + (txSt i s).1.length ≤ s.1.length
  | 0, _ => by rw [txSt_zero]; omega
  | i + 1, h => by
    have h1 := txs_count i fun j hj => h j (by omega)
    have h2 := h (i + 1) (by omega)
    rw [txSt_succ] at h2 ⊢
    have := txR_dec h2
    omega
theorem txs_few {s : St} {i : Nat} (h : ∀ j, j < i → (txSt j s).2 = false) : i ≤ s.1.length + 1 := by
  cases i with
  | zero => omega
  | succ i => have := txs_count i h; omega
def txOut (m : Nat) (s : St) : List Bs := if (cutV 93 (txSt m (numR 91 0 s))).2 = true then [] else txsV m (numR 91 0 s)
theorem rLeft_sp {w : World} {F : Th} {b : Nat} {s : St} (hS : Sat w [readT b s, F]) :
    Calls Tryz.prog 57 #[ptrV b 0] w (Ret fun v w' => v = intV (s.1.length : Int) ∧ Sat w' [readT b s, F]) := by
  obtain ⟨r, q⟩ := s
  change Sat w [blkT b [strV r, .bool q], F] at hS
  refine calls_enter Tryz.func57 rfl Tryz.ntmps57 rfl ?_
  refine wc_seq ?_
  refine wc_region ?_
  refine wl_assign rfl rfl ?_
  refine wl_nil ?_
  refine qs_seq ?_
  refine wc_seq ?_
  refine wc_region ?_
  refine wl_move rfl rfl ?_
  refine wl_nilCheck rfl rfl ?_
  refine wl_fieldAddr rfl fo_128_0 rfl ?_
  refine wl_load rfl ag_9 (by first | assumption | exact hS.cell 0 rfl rfl) rfl ?_
  refine wl_lenS Tryz.underlying9 rfl rfl ?_
  refine wl_assign rfl rfl ?_
  refine wl_nil ?_
  refine qs_seq ?_
  refine wc_ret ?_
  refine fin1 (.inr rfl) rfl rfl ?_
  exact ⟨_, rfl, rfl, hS⟩
set_option maxRecDepth 100000 in
theorem items_sp {w : World} {F : Th} {rb : Nat} {s : St} (hS : Sat w [readT rb s, F]) (hG : Ent F WireG) (hrl : s.1.length ≤ 1000000) :
    Calls Tryz.prog 103 #[ptrV rb 0, .func (.func 58) #[ptrV rb 0] #[]] w (Ret fun v w' => ∃ m, TxEnd (numV 91 0 s) (numR 91 0 s) m ∧ Sat w' [rowT stC v (txOut m s), readT rb (cutV 93 (txSt m (numR 91 0 s))), F]) := by
  refine calls_enter Tryz.func103 rfl Tryz.ntmps103 rfl ?_
  have hrn := numR_len 91 0 s
  have hnn := numV_nn 91 s
  refine wc_seq ?_
  refine wc_region ?_
  refine wl_assign rfl rfl ?_
  refine wl_nil ?_
  refine qs_seq ?_
  refine wc_seq ?_
  refine wc_region ?_
  refine wl_assign rfl rfl ?_
  refine wl_nil ?_
  refine qs_seq ?_
  refine wc_seq ?_
  refine wc_seq ?_
  refine wc_region ?_
  refine wl_move rfl rfl ?_
  have hC1 := hS.split [0] [true, false] rfl; dsimp only [selF, pickA, nthA, List.cons_append, List.nil_append] at hC1
  refine wl_call cal_100 rfl (number_sp hC1 (hG.starL 0 rfl) 91 0 (by omega)) rfl ?_
  rintro e w1 ⟨_, rfl, rfl, hS1⟩; refine ⟨_, rfl, ?_⟩
  replace hS1 := hS1.join rfl; dsimp only [List.dropLast, List.cons_append, List.nil_append] at hS1; clear hC1
  refine wl_assign rfl rfl ?_
  refine wl_nil ?_
  refine qs_seq ?_
  refine wc_block ?_
  refine wc_loop (fun K0 E0 W0 => ∃ (i : Nat) (ov : Value), K0 = (numV 91 0 s).toNat - i ∧ E0 = [(0, ptrV rb 0), (1, .func (.func 58) #[ptrV rb 0] #[]), (5, ov), (6, intV ((numV 91 0 s) - (i : Int)))] ∧ Sat W0 [readT rb (txSt i (numR 91 0 s)), rowT stC ov (txsV i (numR 91 0 s)), F] ∧ ((i : Int) ≤ (numV 91 0 s)) ∧ (∀ j, j < i → (txSt j (numR 91 0 s)).2 = false)) (L0 := [(0, _), (1, _), (5, _), (6, _)]) ((numV 91 0 s).toNat - 0) (.cons rfl (.cons rfl (.cons rfl (.cons rfl .nil)))) ⟨0, _, rfl, by rw [show (numV 91 0 s) - ((0 : Nat) : Int) = (numV 91 0 s) by omega], (by rw [txSt_zero, show txsV 0 (numR 91 0 s) = [] by simp [txsV]]; exact (hS1.row_nil stC).pick [1, 0, 2] rfl), by omega, by omega⟩ ?_
  rintro _ _ w2 ⟨i, ov, rfl, rfl, hS2, hi, hgd⟩
  have hfw := txs_few hgd
  have hln := txSt_len i (numR 91 0 s)
  have htl := txsV_len i (numR 91 0 s)
  have h1ov : ov.oneCell' = true := hS2.own_one 1 rfl
  have hnv := numV_in 91 0 s
  unfold inI at hnv
  refine wc_seq ?_
  refine wc_seq ?_
  refine wc_region ?_
  refine wl_move rfl rfl ?_
  refine wl_gtr rfl rfl rfl ?_
  refine wl_move rfl rfl ?_
  refine wl_splitD 11 rfl (fun h3 => ?_) (fun h3 => ?_)
  · skip
    refine wl_guard rfl rfl (decide_eq_true h3) ?_
    refine wl_move rfl rfl ?_
    refine wl_guard rfl rfl (decide_eq_true h3) ?_
    refine wl_nilCheck rfl rfl ?_
    refine wl_guard rfl rfl (decide_eq_true h3) ?_
    refine wl_fieldAddr rfl fo_128_1 rfl ?_
    refine wl_guard rfl rfl (decide_eq_true h3) ?_
    refine wl_load rfl ag_4 (hS2.cell 0 (o := 1) rfl rfl) rfl ?_
    refine wl_guard rfl rfl (decide_eq_true h3) ?_
    refine wl_not rfl rfl ?_
    refine wl_pickT rfl (decide_eq_true h3) rfl rfl ?_
    refine wl_nil ?_
    refine qs_seq ?_
    refine wc_sub (L' := [(17, _), (0, _), (1, _), (5, _), (6, _)]) (.cons rfl (.cons rfl (.cons rfl (.cons rfl (.cons rfl .nil))))) ?_
    refine wc_cond rfl (fun h4 => ?_) (fun h4 => ?_)
    · skip
      refine wc_skip ?_
      refine qs_seq ?_
      refine wc_seq ?_
      refine wc_block ?_
      refine wc_region ?_
      refine wl_move rfl rfl ?_
      refine wl_move rfl rfl ?_
      have hC5 := hS2.split [0] [true, false, false] rfl; dsimp only [selF, pickA, nthA, List.cons_append, List.nil_append] at hC5
      refine wl_callB rfl cal_58 rfl (rText_sp hC5 (hG.starL 1 rfl) (by omega)) rfl ?_
      rintro e w5 ⟨_, rfl, rfl, hS5⟩; refine ⟨_, rfl, ?_⟩
      replace hS5 := hS5.join rfl; dsimp only [List.dropLast, List.cons_append, List.nil_append] at hS5; clear hC5
      clear hS2
      refine wl_rowBuild stC [txtV (txSt i (numR 91 0 s))] hS5 rfl Tryz.underlying31 ifz_9 rfl rfl rfl rfl (by first | rfl | simp [RowC.cells, fillL, splice]) rfl ?_
      intro b6 w6 hS6
      clear hS5
      refine wl_rowApp stC 2 hS6 rfl rfl rfl (hS6.rd 0 rfl (by simp)) Tryz.underlying31 Tryz.underlying31 (by intro k hk; cases hk) ifo_9 rfl (by simp only [List.length_cons, List.length_nil]; omega) rfl (by simp only [List.length_cons, List.length_nil]; omega) ?_
      intro v7 w7 hS7; dsimp only [List.set] at hS7
      clear hS6
      have h1v7 : v7.oneCell' = true := hS7.own_one 2 rfl
      refine wl_assign rfl rfl ?_
      refine wl_nil ?_
      refine qs_block_normal ?_
      refine qs_seq ?_
      refine wc_region ?_
      refine wl_move rfl rfl ?_
      refine wl_sub' rfl rfl (by first | omega | (simp; omega)) (by first | omega | (simp; omega)) rfl ?_
      refine wl_assign rfl rfl ?_
      refine wl_nil ?_
      exact qs_round (L1 := [(0, _), (1, _), (5, _), (6, _)]) (.cons rfl (.cons rfl (.cons rfl (.cons rfl .nil)))) (k1 := (numV 91 0 s).toNat - (i + 1)) (by omega) ⟨i + 1, _, rfl, by rw [show (numV 91 0 s) - ((i + 1 : Nat) : Int) = (numV 91 0 s) - (i : Int) - 1 by omega], (by rw [txsV_succ, txSt_succ]; exact hS7.pick [1, 2, 3] rfl), by omega, fun j hj => by by_cases e : j = i; (subst e; simpa using (by assumption : (!(txSt j (numR 91 0 s)).2) = true)); exact hgd j (by omega)⟩
    refine wc_exit ?_
    refine qs_then_exit ?_
    refine qs_then_exit ?_
    refine qs_block_exit ?_
    refine qs_seq ?_
    refine wc_seq ?_
    refine wc_seq ?_
    refine wc_region ?_
    refine wl_move rfl rfl ?_
    have hC8 := hS2.split [0] [true, false, false] rfl; dsimp only [selF, pickA, nthA, List.cons_append, List.nil_append] at hC8
    refine wl_call cal_102 rfl (rClose_sp hC8 93) rfl ?_
    rintro e w8 ⟨_, rfl, rfl, hS8⟩; refine ⟨_, rfl, ?_⟩
    replace hS8 := hS8.join rfl; dsimp only [List.dropLast, List.cons_append, List.nil_append] at hS8; clear hC8
    clear hS2
    refine wl_nil ?_
    refine qs_seq ?_
    refine wc_seq ?_
    refine wc_region ?_
    refine wl_move rfl rfl ?_
    refine wl_nilCheck rfl rfl ?_
    refine wl_fieldAddr rfl fo_128_1 rfl ?_
    refine wl_load rfl ag_4 (hS8.cell 0 (o := 1) rfl rfl) rfl ?_
    refine wl_nil ?_
    refine qs_seq ?_
    refine wc_sub (L' := [(30, _), (5, _)]) (.cons rfl (.cons rfl .nil)) ?_
    refine wc_cond rfl (fun h9 => ?_) (fun h9 => ?_)
    · skip
      refine wc_seq ?_
      refine wc_region ?_
      refine wl_assign rfl rfl ?_
      refine wl_nil ?_
      refine qs_seq ?_
      refine wc_ret ?_
      refine qs_then_ret ?_
      refine fin1 (.inr rfl) rfl rfl ?_
      have hend : TxEnd (numV 91 0 s) (numR 91 0 s) i := ⟨by omega, hgd, by first | (left; omega) | (right; simpa using (by assumption : (!(txSt i (numR 91 0 s)).2) = false))⟩
      exact ⟨_, rfl, i, hend, by unfold txOut; rw [if_pos (by assumption)]; exact (hS8.pick [0, 2] rfl).row_nil stC⟩
    refine wc_skip ?_
    refine qs_seq ?_
    refine wc_seq ?_
    refine wc_region ?_
    refine wl_move rfl rfl ?_
    refine wl_assign rfl rfl ?_
    refine wl_nil ?_
    refine qs_seq ?_
    refine wc_ret ?_
    refine fin1 (.inr rfl) rfl rfl ?_
    have hend : TxEnd (numV 91 0 s) (numR 91 0 s) i := ⟨by omega, hgd, by first | (left; omega) | (right; simpa using (by assumption : (!(txSt i (numR 91 0 s)).2) = false))⟩
    exact ⟨_, rfl, i, hend, by unfold txOut; rw [if_neg (by simp_all)]; exact hS8.pick [1, 0, 2] rfl⟩
  refine wl_unwanted rfl rfl (decide_eq_false h3) rfl ?_
  refine wl_unwanted rfl rfl (decide_eq_false h3) rfl ?_
  refine wl_unwanted rfl rfl (decide_eq_false h3) rfl ?_
  refine wl_unwanted rfl rfl (decide_eq_false h3) rfl ?_
  refine wl_unwanted rfl rfl (decide_eq_false h3) rfl ?_
  refine wl_pickF rfl (decide_eq_false h3) rfl rfl ?_
  refine wl_nil ?_
  refine qs_seq ?_
  refine wc_sub (L' := [(17, _), (0, _), (1, _), (5, _), (6, _)]) (.cons rfl (.cons rfl (.cons rfl (.cons rfl (.cons rfl .nil))))) ?_
  refine wc_condF rfl ?_
  refine wc_exit ?_
  refine qs_then_exit ?_
  refine qs_then_exit ?_
  refine qs_block_exit ?_
  refine qs_seq ?_
  refine wc_seq ?_
  refine wc_seq ?_
  refine wc_region ?_
  refine wl_move rfl rfl ?_
  have hC10 := hS2.split [0] [true, false, false] rfl; dsimp only [selF, pickA, nthA, List.cons_append, List.nil_append] at hC10
  refine wl_call cal_102 rfl (rClose_sp hC10 93) rfl ?_
  rintro e w10 ⟨_, rfl, rfl, hS10⟩; refine ⟨_, rfl, ?_⟩
  replace hS10 := hS10.join rfl; dsimp only [List.dropLast, List.cons_append, List.nil_append] at hS10; clear hC10
  clear hS2
  refine wl_nil ?_
  refine qs_seq ?_
  refine wc_seq ?_
  refine wc_region ?_
  refine wl_move rfl rfl ?_
  refine wl_nilCheck rfl rfl ?_
  refine wl_fieldAddr rfl fo_128_1 rfl ?_
  refine wl_load rfl ag_4 (hS10.cell 0 (o := 1) rfl rfl) rfl ?_
  refine wl_nil ?_
  refine qs_seq ?_
  refine wc_sub (L' := [(30, _), (5, _)]) (.cons rfl (.cons rfl .nil)) ?_
  refine wc_cond rfl (fun h11 => ?_) (fun h11 => ?_)
  · skip
    refine wc_seq ?_
    refine wc_region ?_
    refine wl_assign rfl rfl ?_
    refine wl_nil ?_
    refine qs_seq ?_
    refine wc_ret ?_
    refine qs_then_ret ?_
    refine fin1 (.inr rfl) rfl rfl ?_
    have hend : TxEnd (numV 91 0 s) (numR 91 0 s) i := ⟨by omega, hgd, by first | (left; omega) | (right; simpa using (by assumption : (!(txSt i (numR 91 0 s)).2) = false))⟩
    exact ⟨_, rfl, i, hend, by unfold txOut; rw [if_pos (by assumption)]; exact (hS10.pick [0, 2] rfl).row_nil stC⟩
  refine wc_skip ?_
  refine qs_seq ?_
  refine wc_seq ?_
  refine wc_region ?_
  refine wl_move rfl rfl ?_
  refine wl_assign rfl rfl ?_
  refine wl_nil ?_
  refine qs_seq ?_
  refine wc_ret ?_
  refine fin1 (.inr rfl) rfl rfl ?_
  have hend : TxEnd (numV 91 0 s) (numR 91 0 s) i := ⟨by omega, hgd, by first | (left; omega) | (right; simpa using (by assumption : (!(txSt i (numR 91 0 s)).2) = false))⟩
  exact ⟨_, rfl, i, hend, by unfold txOut; rw [if_neg (by simp_all)]; exact hS10.pick [1, 0, 2] rfl⟩
theorem rTexts_sp {w : World} {F : Th} {rb : Nat} {s : St} (hS : Sat w [readT rb s, F]) (hG : Ent F WireG) (hrl : s.1.length ≤ 1000000) :
    Calls Tryz.prog 59 #[ptrV rb 0] w (Ret fun v w' => ∃ m, TxEnd (numV 91 0 s) (numR 91 0 s) m ∧ Sat w' [rowT stC v (txOut m s), readT rb (cutV 93 (txSt m (numR 91 0 s))), F]) := by
  refine calls_enter Tryz.func59 rfl Tryz.ntmps59 rfl ?_
  refine wc_seq ?_
  refine wc_region ?_
  refine wl_assign rfl rfl ?_
  refine wl_nil ?_
  refine qs_seq ?_
  refine wc_seq ?_
  refine wc_region ?_
  refine wl_move rfl rfl ?_
  refine wl_move rfl rfl ?_
  refine wl_makeBound rfl rfl ?_
  have hC1 := hS.split [0] [true, false] rfl; dsimp only [selF, pickA, nthA, List.cons_append, List.nil_append] at hC1
  refine wl_call cal_103 rfl (items_sp hC1 (hG.starL 0 rfl) hrl) rfl ?_
  rintro e w1 ⟨_, rfl, m, hm, hS1⟩; refine ⟨_, rfl, ?_⟩
  replace hS1 := hS1.join rfl; dsimp only [List.dropLast, List.cons_append, List.nil_append] at hS1; clear hC1
  refine wl_assign rfl rfl ?_
  refine wl_nil ?_
  refine qs_seq ?_
  refine wc_ret ?_
  refine fin1 (.inr rfl) rfl rfl ?_
  exact ⟨_, rfl, m, hm, hS1⟩
theorem intsR_succ (n : Nat) (s : St) : intsR (n + 1) s = iR (intsR n s) := by simp only [intsR]
theorem intsR_zero (s : St) : intsR 0 s = s := by simp only [intsR]
theorem intsV_zero (s : St) : intsV 0 s = [] := by simp only [intsV]; rfl
set_option maxRecDepth 100000 in
theorem rints_sp {w : World} {F : Th} {rb r4 b : Nat} {s : St} {cs : List Value} (hS : Sat w [readT rb s, blkT r4 [ptrV rb 0], blkT b cs, F]) (hG : Ent F WireG) {lv : Value} {os : List Nat} (hL : Ent F (RdL (ptC b) lv os)) (hos : ∀ o ∈ os, o < cs.length) (hol : os.length ≤ 100) (hrl : s.1.length ≤ 1000000) :
    Calls Tryz.prog 53 #[lv, ptrV r4 0] w (Ret fun v w' => v = .tuple #[] ∧ Sat w' [readT rb (intsR os.length s), blkT r4 [ptrV rb 0], blkT b (setI cs os (intsV os.length s)), F]) := by
  obtain ⟨ao, cap, rfl, hmax⟩ := (hL.sat (hS.pull 3 rfl) 0 rfl).shape
  refine calls_enter Tryz.func53 rfl Tryz.ntmps53 rfl ?_
  refine wc_seq ?_
  refine wc_region ?_
  refine wl_move rfl rfl ?_
  refine wl_lenL Tryz.underlying92 rfl rfl ?_
  refine wl_move rfl rfl ?_
  refine wl_nil ?_
  refine qs_seq ?_
  refine wc_block ?_
  refine wc_loop (fun K0 E0 W0 => ∃ (i : Nat), K0 = os.length - i ∧ E0 = [(1, ptrV r4 0), (5, .slice ao os.length cap), (6, intV (os.length : Int)), (7, intV (i : Int))] ∧ Sat W0 [readT rb (intsR i s), blkT r4 [ptrV rb 0], blkT b (setI cs (os.take i) (intsV i s)), F] ∧ (i ≤ os.length)) (L0 := [(1, _), (5, _), (6, _), (7, _)]) (os.length - 0) (.cons rfl (.cons rfl (.cons rfl (.cons rfl .nil)))) ⟨0, rfl, rfl, (by rw [List.take_zero, intsR_zero, show setI cs [] (intsV 0 s) = cs by simp [setI]]; exact hS), by omega⟩ ?_
  rintro _ _ w1 ⟨i, rfl, rfl, hS1, hi⟩
  refine wc_seq ?_
  refine wc_region ?_
  refine wl_lss rfl rfl rfl ?_
  refine wl_nil ?_
  refine qs_seq ?_
  refine wc_seq ?_
  refine wc_condD rfl (fun h2 => ?_) (fun h2 => ?_)
  · skip
    obtain ⟨q, hq⟩ : ∃ q, os[i]? = some q := ⟨_, List.getElem?_eq_getElem (by omega)⟩
    obtain ⟨pb, off, rfl, hc⟩ := (hL.sat hS1 3 rfl).get hq
    have hqo := hos q (List.mem_of_getElem? hq)
    have hin := intsR_len i s
    have htk : os.take (i + 1) = os.take i ++ [q] := by rw [List.take_add_one, hq]; rfl
    refine wc_skip ?_
    refine qs_seq ?_
    refine wc_seq ?_
    refine wc_block ?_
    refine wc_seq ?_
    refine wc_region ?_
    refine wl_indexAddr i rfl rfl (by first | rfl | omega) (by omega) es_92 rfl ?_
    refine wl_load rfl ag_93 (hc 0 _ rfl) rfl ?_
    refine wl_assign rfl rfl ?_
    refine wl_nil ?_
    refine qs_seq ?_
    refine wc_region ?_
    refine wl_move rfl rfl ?_
    refine wl_load rfl ag_90 (hS1.cell 1 (o := 0) rfl rfl) rfl ?_
    have hC3 := hS1.split [0] [true, false, false, false] rfl; dsimp only [selF, pickA, nthA, List.cons_append, List.nil_append] at hC3
    refine wl_call cal_54 rfl (rInt_sp hC3 (hG.starL 2 rfl) (by omega)) rfl ?_
    rintro e w3 ⟨_, rfl, rfl, hS3⟩; refine ⟨_, rfl, ?_⟩
    replace hS3 := hS3.join rfl; dsimp only [List.dropLast, List.cons_append, List.nil_append] at hS3; clear hC3
    clear hS1
    refine wl_nilCheck rfl rfl ?_
    refine wl_store hS3 rfl rfl sz_3 rfl (i := 2) rfl (by rw [setI_len]; exact hqo) ?_
    intro w4 hS4; dsimp only [List.set] at hS4
    clear hS3
    refine wl_nil ?_
    refine qs_block_normal ?_
    refine qs_seq ?_
    refine wc_sub (L' := [(1, _), (5, _), (6, _), (7, _)]) (.cons rfl (.cons rfl (.cons rfl (.cons rfl .nil)))) ?_
    refine wc_region ?_
    refine wl_add rfl rfl (by first | omega | (simp; omega)) (by first | omega | (simp; omega)) rfl ?_
    refine wl_move rfl rfl ?_
    refine wl_nil ?_
    exact qs_round (L1 := [(1, _), (5, _), (6, _), (7, intV ((i + 1 : Nat) : Int))]) (.cons rfl (.cons rfl (.cons rfl (.cons rfl .nil)))) (k1 := os.length - (i + 1)) (by omega) ⟨i + 1, rfl, rfl, (by rw [htk, intsV_succ, setI_snoc _ _ _ _ _ (by rw [List.length_take, intsV_len]; omega), intsR_succ, ← iV_eq, ← iR_eq]; exact hS4.pick [0, 1, 2, 3] rfl), by omega⟩
  refine wc_exit ?_
  refine qs_then_exit ?_
  refine qs_then_exit ?_
  refine qs_block_exit ?_
  refine fin0 (.inl rfl) rfl ?_
  exact ⟨_, rfl, rfl, by rw [show i = os.length by omega, List.take_length] at hS1; exact hS1⟩
theorem rflag_sp {w : World} {F : Th} {rb r5 : Nat} {s : St} {rt : Bool} (hS : Sat w [readT rb s, blkT r5 [.bool rt], F]) (hG : Ent F WireG) (hrl : s.1.length ≤ 1000000) :
    Calls Tryz.prog 55 #[.func (.func 54) #[ptrV rb 0] #[], ptrV r5 0] w (Ret fun v w' => v = .bool (decide (iV s = 1)) ∧ Sat w' [readT rb (iR s), blkT r5 [.bool (rt && fl01 (iV s))], F]) := by
  refine calls_enter Tryz.func55 rfl Tryz.ntmps55 rfl ?_
  refine wc_seq ?_
  refine wc_region ?_
  refine wl_assign rfl rfl ?_
  refine wl_nil ?_
  refine qs_seq ?_
  refine wc_seq ?_
  refine wc_region ?_
  refine wl_move rfl rfl ?_
  have hC1 := hS.split [0] [true, false, false] rfl; dsimp only [selF, pickA, nthA, List.cons_append, List.nil_append] at hC1
  refine wl_callB rfl cal_54 rfl (rInt_sp hC1 (hG.starL 1 rfl) (by omega)) rfl ?_
  rintro e w1 ⟨_, rfl, rfl, hS1⟩; refine ⟨_, rfl, ?_⟩
  replace hS1 := hS1.join rfl; dsimp only [List.dropLast, List.cons_append, List.nil_append] at hS1; clear hC1
  refine wl_assign rfl rfl ?_
  refine wl_nil ?_
  refine qs_seq ?_
  refine wc_seq ?_
  refine wc_region ?_
  refine wl_load rfl ag_4 (hS1.cell 1 (o := 0) rfl rfl) rfl ?_
  refine wl_move rfl rfl ?_
  refine wl_split 8 rfl (fun h2 => ?_) (fun h2 => ?_)
  · skip
    refine wl_guard rfl rfl h2 ?_
    refine wl_move rfl rfl ?_
    refine wl_guard rfl rfl h2 ?_
    refine wl_eql rfl rfl rfl ?_
    refine wl_guard rfl rfl h2 ?_
    refine wl_move rfl rfl ?_
    refine wl_splitD 11 rfl (fun h3 => ?_) (fun h3 => ?_)
    · skip
      refine wl_unwanted rfl rfl (decide_eq_true h3) rfl ?_
      refine wl_unwanted rfl rfl (decide_eq_true h3) rfl ?_
      refine wl_guard rfl rfl h2 ?_
      refine wl_pickT rfl (decide_eq_true h3) rfl rfl ?_
      refine wl_pickT rfl h2 rfl rfl ?_
      first | (refine wl_store hS1 rfl rfl sz_4 (by first | rfl | assumption) (i := 1) rfl (by first | decide | exact Nat.le_of_ble_eq_true rfl | (simp; done) | omega) ?_)
      intro w4 hS5; dsimp only [List.set] at hS5
      clear hS1
      refine wl_nil ?_
      refine qs_seq ?_
      refine wc_sub (L' := [(4, _), (3, _)]) (.cons rfl (.cons rfl .nil)) ?_
      refine wc_seq ?_
      refine wc_region ?_
      refine wl_move rfl rfl ?_
      refine wl_eql rfl rfl rfl ?_
      refine wl_assign rfl rfl ?_
      refine wl_nil ?_
      refine qs_seq ?_
      refine wc_ret ?_
      refine fin1 (.inr rfl) rfl rfl ?_
      have e5 : (rt && fl01 (iV s)) = true := by unfold fl01; rw [← iV_eq]; simp_all
      exact ⟨_, rfl, by rw [← iV_eq], by rw [e5, ← iR_eq]; exact hS5.pick [0, 1, 2] rfl⟩
    refine wl_guard rfl rfl (decide_eq_false h3) ?_
    refine wl_move rfl rfl ?_
    refine wl_guard rfl rfl (decide_eq_false h3) ?_
    refine wl_eql rfl rfl rfl ?_
    refine wl_guard rfl rfl h2 ?_
    refine wl_pickF rfl (decide_eq_false h3) rfl rfl ?_
    refine wl_pickT rfl h2 rfl rfl ?_
    first | (refine wl_store hS1 rfl rfl sz_4 (by first | rfl | assumption) (i := 1) rfl (by first | decide | exact Nat.le_of_ble_eq_true rfl | (simp; done) | omega) ?_)
    intro w6 hS7; dsimp only [List.set] at hS7
    clear hS1
    refine wl_nil ?_
    refine qs_seq ?_
    refine wc_sub (L' := [(4, _), (3, _)]) (.cons rfl (.cons rfl .nil)) ?_
    refine wc_seq ?_
    refine wc_region ?_
    refine wl_move rfl rfl ?_
    refine wl_eql rfl rfl rfl ?_
    refine wl_assign rfl rfl ?_
    refine wl_nil ?_
    refine qs_seq ?_
    refine wc_ret ?_
    refine fin1 (.inr rfl) rfl rfl ?_
    have e5 : (rt && fl01 (iV s)) = decide (numV 59 (-9223372036854775808) s = 1) := by unfold fl01; rw [← iV_eq]; simp_all
    exact ⟨_, rfl, by rw [← iV_eq], by rw [e5, ← iR_eq]; exact hS7.pick [0, 1, 2] rfl⟩
  refine wl_unwanted rfl rfl h2 rfl ?_
  refine wl_unwanted rfl rfl h2 rfl ?_
  refine wl_unwanted rfl rfl h2 rfl ?_
  refine wl_unguarded rfl rfl rfl ?_
  refine wl_unguarded rfl rfl rfl ?_
  refine wl_unwanted rfl rfl h2 rfl ?_
  refine wl_pickF rfl h2 rfl rfl ?_
  first | (refine wl_store hS1 rfl rfl sz_4 (by first | rfl | assumption) (i := 1) rfl (by first | decide | exact Nat.le_of_ble_eq_true rfl | (simp; done) | omega) ?_)
  intro w8 hS9; dsimp only [List.set] at hS9
  clear hS1
  refine wl_nil ?_
  refine qs_seq ?_
  refine wc_sub (L' := [(4, _), (3, _)]) (.cons rfl (.cons rfl .nil)) ?_
  refine wc_seq ?_
  refine wc_region ?_
  refine wl_move rfl rfl ?_
  refine wl_eql rfl rfl rfl ?_
  refine wl_assign rfl rfl ?_
  refine wl_nil ?_
  refine qs_seq ?_
  refine wc_ret ?_
  refine fin1 (.inr rfl) rfl rfl ?_
  have e5 : (rt && fl01 (iV s)) = false := by unfold fl01; rw [← iV_eq]; simp_all
  exact ⟨_, rfl, by rw [← iV_eq], by rw [e5, ← iR_eq]; exact hS9.pick [0, 1, 2] rfl⟩
end Go.Proofs.YtcbdclhoekokpaaGreatDoor
