/- reference 01: the reader -/
import Derived.Test.YtcbdclhoekokpaaGreatDoorRw1
namespace Go.Proofs.YtcbdclhoekokpaaGreatDoor
open Go.RowKit M
set_option linter.unusedVariables false
theorem r1Open_sp {w : World} {F : Th} (hS : Sat w [F]) (s : Bs) :
    Calls Tryz.prog 89 #[strV s] w (Ret fun v w' => ∃ b, v = ptrV b 0 ∧ Sat w' [readT b (s, false), F]) := by
  refine calls_enter Tryz.func89 rfl Tryz.ntmps89 rfl ?_
  refine wc_seq ?_
  refine wc_region ?_
  refine wl_assign rfl rfl ?_
  refine wl_nil ?_
  refine qs_seq ?_
  refine wc_seq ?_
  refine wc_region ?_
  refine wl_move rfl rfl ?_
  refine wl_buildS rfl pl_141_0 asz_141 zr_141 rfl rfl ?_
  refine wl_box hS rfl rfl rfl ?_
  intro b1 w1 hS1
  refine wl_assign rfl rfl ?_
  refine wl_nil ?_
  refine qs_seq ?_
  refine wc_ret ?_
  refine fin1 (.inr rfl) rfl rfl ?_
  exact ⟨_, rfl, _, rfl, hS1⟩
theorem r1Fail_sp {w : World} {F : Th} {b : Nat} {s : Bs × Bool} (hS : Sat w [readT b s, F]) :
    Calls Tryz.prog 119 #[ptrV b 0] w (Ret fun v w' => v = intV 0 ∧ Sat w' [readT b ([], true), F]) := by
  refine calls_enter Tryz.func119 rfl Tryz.ntmps119 rfl ?_
  refine wc_seq ?_
  refine wc_region ?_
  refine wl_assign rfl rfl ?_
  refine wl_nil ?_
  refine qs_seq ?_
  refine wc_seq ?_
  refine wc_region ?_
  refine wl_move rfl rfl ?_
  refine wl_nilCheck rfl rfl ?_
  refine wl_fieldAddr rfl fo_141_0 rfl ?_
  first | (refine wl_store hS rfl rfl sz_9 (by first | rfl | assumption) (i := 0) rfl (by first | decide | exact Nat.le_of_ble_eq_true rfl | (simp; done) | omega) ?_)
  intro w1 hS2; dsimp only [List.set] at hS2
  refine wl_nil ?_
  refine qs_seq ?_
  refine wc_seq ?_
  refine wc_region ?_
  refine wl_move rfl rfl ?_
  refine wl_nilCheck rfl rfl ?_
  refine wl_fieldAddr rfl fo_141_1 rfl ?_
  first | (refine wl_store hS2 rfl rfl sz_4 (by first | rfl | assumption) (i := 0) rfl (by first | decide | exact Nat.le_of_ble_eq_true rfl | (simp; done) | omega) ?_)
  intro w3 hS4; dsimp only [List.set] at hS4
  clear hS2
  refine wl_nil ?_
  refine qs_seq ?_
  refine wc_seq ?_
  refine wc_region ?_
  refine wl_assign rfl rfl ?_
  refine wl_nil ?_
  refine qs_seq ?_
  refine wc_ret ?_
  refine fin1 (.inr rfl) rfl rfl ?_
  exact ⟨_, rfl, rfl, hS4⟩
theorem ahead_far {e : UInt8} {r : Bs} {k : Nat} (hno : ∀ j, j < k → r[j]? ≠ some e) (h : r.length ≤ k ∨ 21 ≤ k ∨ (20 < k + 1 ∧ ∃ c, r[k]? = some c ∧ c ≠ e ∧ 21 ≤ k)) : numP e (-9223372036854775808) r = none := by
  refine numP_far fun j hj => ?_
  by_cases hjk : j < k
  · exact hno j hjk
  · rcases h with h | h | h
    · rw [List.getElem?_eq_none (by omega)]; simp
    · omega
    · omega
theorem ahead_bad {e : UInt8} {r : Bs} {k : Nat} (he : 57 < e.toNat) (hno : ∀ j, j < k → r[j]? ≠ some e) (hk : r[k]? = some e) (h : ∀ m, inI m → r.take k ≠ Lib.itoa m) : numP e (-9223372036854775808) r = none := by
  cases hq : numP e (-9223372036854775808) r with
  | none => rfl
  | some x =>
    obtain ⟨m, r'⟩ := x
    obtain ⟨h1, _, h2⟩ := numP_first he hno hk hq
    exact absurd h1 (h m h2)
set_option maxRecDepth 100000 in
theorem ahead_sp {w : World} {F : Th} {b : Nat} {s : Bs × Bool} (hS : Sat w [readT b s, F]) (e : UInt8) (he : 57 < e.toNat) (hrl : s.1.length ≤ 9223372036854775806) :
    Calls Tryz.prog 117 #[ptrV b 0, byteV e] w (Ret fun v w' => v = intV (numV e (-9223372036854775808) s) ∧ Sat w' [readT b (numR e (-9223372036854775808) s), F]) := by
  obtain ⟨r, q⟩ := s
  dsimp only at hrl
  change Sat w [blkT b [strV r, .bool q], F] at hS
  refine calls_enter Tryz.func117 rfl Tryz.ntmps117 rfl ?_
  refine wc_seq ?_
  refine wc_region ?_
  refine wl_assign rfl rfl ?_
  refine wl_nil ?_
  refine qs_seq ?_
  refine wc_seq ?_
  refine wc_region ?_
  refine wl_assign rfl rfl ?_
  refine wl_nil ?_
  refine qs_seq ?_
  refine wc_seq ?_
  refine wc_block ?_
  refine wc_loop (fun K0 E0 W0 => ∃ (k : Nat), K0 = 21 - k ∧ E0 = [(0, ptrV b 0), (1, byteV e), (5, intV (k : Int))] ∧ Sat W0 [blkT b [strV r, .bool q], F] ∧ (k ≤ 21 ∧ k ≤ r.length) ∧ (∀ j, j < k → r[j]? ≠ some e)) (L0 := [(0, _), (1, _), (5, _)]) (21 - 0) (.cons rfl (.cons rfl (.cons rfl .nil))) ⟨0, rfl, rfl, hS, by omega, by omega⟩ ?_
  rintro _ _ w1 ⟨k, rfl, rfl, hS1, hk, hno⟩
  refine wc_seq ?_
  refine wc_seq ?_
  refine wc_region ?_
  refine wl_move rfl rfl ?_
  refine wl_move rfl rfl ?_
  refine wl_nilCheck rfl rfl ?_
  refine wl_fieldAddr rfl fo_141_0 rfl ?_
  refine wl_load rfl ag_9 (by first | assumption | exact hS1.cell 0 rfl rfl) rfl ?_
  refine wl_lenS Tryz.underlying9 rfl rfl ?_
  refine wl_lss rfl rfl rfl ?_
  refine wl_move rfl rfl ?_
  refine wl_splitD 15 rfl (fun h2 => ?_) (fun h2 => ?_)
  · skip
    obtain ⟨ch, hck⟩ : ∃ c, r[k]? = some c := ⟨_, List.getElem?_eq_getElem (by omega)⟩
    refine wl_guard rfl rfl (decide_eq_true h2) ?_
    refine wl_move rfl rfl ?_
    refine wl_guard rfl rfl (decide_eq_true h2) ?_
    refine wl_lss rfl rfl rfl ?_
    refine wl_pickT rfl (decide_eq_true h2) rfl rfl ?_
    refine wl_move rfl rfl ?_
    refine wl_splitD 19 rfl (fun h3 => ?_) (fun h3 => ?_)
    · skip
      refine wl_guard rfl rfl (decide_eq_true h3) ?_
      refine wl_move rfl rfl ?_
      refine wl_guard rfl rfl (decide_eq_true h3) ?_
      refine wl_nilCheck rfl rfl ?_
      refine wl_guard rfl rfl (decide_eq_true h3) ?_
      refine wl_fieldAddr rfl fo_141_0 rfl ?_
      refine wl_guard rfl rfl (decide_eq_true h3) ?_
      refine wl_load rfl ag_9 (by first | assumption | exact hS1.cell 0 rfl rfl) rfl ?_
      refine wl_guard rfl rfl (decide_eq_true h3) ?_
      refine wl_move rfl rfl ?_
      refine wl_guard rfl rfl (decide_eq_true h3) ?_
      refine wl_indexS k Tryz.underlying9 rfl rfl (by first | rfl | omega) hck rfl ?_
      refine wl_guard rfl rfl (decide_eq_true h3) ?_
      refine wl_move rfl rfl ?_
      refine wl_guard rfl rfl (decide_eq_true h3) ?_
      refine wl_neq rfl rfl rfl ?_
      refine wl_pickT rfl (decide_eq_true h3) rfl rfl ?_
      refine wl_nil ?_
      refine qs_seq ?_
      refine wc_sub (L' := [(28, _), (0, _), (1, _), (5, _)]) (.cons rfl (.cons rfl (.cons rfl (.cons rfl .nil)))) ?_
      refine wc_condD rfl (fun h4 => ?_) (fun h4 => ?_)
      · skip
        refine wc_skip ?_
        refine qs_seq ?_
        refine wc_block ?_
        refine wc_region ?_
        refine wl_move rfl rfl ?_
        refine wl_add rfl rfl (by omega) (by omega) rfl ?_
        refine wl_assign rfl rfl ?_
        refine wl_nil ?_
        refine qs_block_normal ?_
        exact qs_round (L1 := [(0, _), (1, _), (5, intV ((k + 1 : Nat) : Int))]) (.cons rfl (.cons rfl (.cons rfl .nil))) (k1 := 21 - (k + 1)) (by omega) ⟨k + 1, rfl, rfl, hS1, by omega, fun j hj => by by_cases ej : j = k; (subst ej; rw [hck]; intro qe; injection qe with qe; subst qe; exact absurd rfl (by assumption)); exact hno j (by omega)⟩
      refine wc_exit ?_
      refine qs_then_exit ?_
      refine qs_then_exit ?_
      refine qs_block_exit ?_
      refine qs_seq ?_
      refine wc_seq ?_
      refine wc_seq ?_
      refine wc_region ?_
      refine wl_move rfl rfl ?_
      refine wl_move rfl rfl ?_
      refine wl_nilCheck rfl rfl ?_
      refine wl_fieldAddr rfl fo_141_0 rfl ?_
      refine wl_load rfl ag_9 (by first | assumption | exact hS1.cell 0 rfl rfl) rfl ?_
      refine wl_lenS Tryz.underlying9 rfl rfl ?_
      refine wl_geq rfl rfl rfl ?_
      refine wl_nil ?_
      refine qs_seq ?_
      refine wc_sub (L' := [(37, _), (0, _), (1, _), (5, _)]) (.cons rfl (.cons rfl (.cons rfl (.cons rfl .nil)))) ?_
      refine wc_condD rfl (fun h5 => ?_) (fun h5 => ?_)
      · skip
        exact absurd h5 (by omega)
      obtain ⟨ch2, hc2⟩ : ∃ c, r[k]? = some c := ⟨_, List.getElem?_eq_getElem (by omega)⟩
      refine wc_skip ?_
      refine qs_seq ?_
      refine wc_seq ?_
      refine wc_seq ?_
      refine wc_region ?_
      refine wl_move rfl rfl ?_
      refine wl_nilCheck rfl rfl ?_
      refine wl_fieldAddr rfl fo_141_0 rfl ?_
      refine wl_load rfl ag_9 (by first | assumption | exact hS1.cell 0 rfl rfl) rfl ?_
      refine wl_move rfl rfl ?_
      refine wl_indexS k Tryz.underlying9 rfl rfl (by first | rfl | omega) hc2 rfl ?_
      refine wl_move rfl rfl ?_
      refine wl_neq rfl rfl rfl ?_
      refine wl_nil ?_
      refine qs_seq ?_
      refine wc_sub (L' := [(47, _), (0, _), (5, _)]) (.cons rfl (.cons rfl (.cons rfl .nil))) ?_
      refine wc_condD rfl (fun h6 => ?_) (fun h6 => ?_)
      · skip
        (rw [hck] at hc2; cases hc2; exact absurd h6 (by omega))
      have hce : r[k]? = some e := by have hq9 := UInt8.toNat_inj.1 (show ch2.toNat = e.toNat by omega); rw [hc2, hq9]
      refine wc_skip ?_
      refine qs_seq ?_
      refine wc_seq ?_
      refine wc_region ?_
      refine wl_move rfl rfl ?_
      refine wl_nilCheck rfl rfl ?_
      refine wl_fieldAddr rfl fo_141_0 rfl ?_
      refine wl_load rfl ag_9 (by first | assumption | exact hS1.cell 0 rfl rfl) rfl ?_
      refine wl_move rfl rfl ?_
      refine wl_sliceS 0 k Tryz.underlying9 rfl (bndN _) (bndS k _ rfl rfl) (by omega) (by omega) rfl ?_
      rw [List.drop_zero]
      have hC7 := hS1.split [] [false, false] rfl; dsimp only [selF, pickA, nthA, List.cons_append, List.nil_append] at hC7
      refine wl_call cal_142 rfl (back_sp hC7 (r.take k) (by simp; omega)) rfl ?_
      rintro e w7 ⟨_, rfl, vn, ok, rfl, hvi, hok, hbad, hS7⟩; refine ⟨_, rfl, ?_⟩
      replace hS7 := hS7.join rfl; dsimp only [List.dropLast, List.cons_append, List.nil_append] at hS7; clear hC7
      clear hS1
      refine wl_move rfl rfl ?_
      refine wl_extract rfl rfl rfl ?_
      refine wl_extract rfl rfl rfl ?_
      refine wl_assign rfl rfl ?_
      refine wl_assign rfl rfl ?_
      refine wl_nil ?_
      refine qs_seq ?_
      refine wc_sub (L' := [(7, _), (6, _), (0, _), (5, _)]) (.cons rfl (.cons rfl (.cons rfl (.cons rfl .nil)))) ?_
      refine wc_seq ?_
      refine wc_seq ?_
      refine wc_region ?_
      refine wl_move rfl rfl ?_
      refine wl_not rfl rfl ?_
      refine wl_nil ?_
      refine qs_seq ?_
      refine wc_cond rfl (fun h8 => ?_) (fun h8 => ?_)
      · skip
        refine wc_seq ?_
        refine wc_region ?_
        refine wl_move rfl rfl ?_
        have hC9 := hS7.split [0] [true, false] rfl; dsimp only [selF, pickA, nthA, List.cons_append, List.nil_append] at hC9
        refine wl_call cal_119 rfl (r1Fail_sp (s := (r, q)) hC9) rfl ?_
        rintro e w9 ⟨_, rfl, rfl, hS9⟩; refine ⟨_, rfl, ?_⟩
        replace hS9 := hS9.join rfl; dsimp only [List.dropLast, List.cons_append, List.nil_append] at hS9; clear hC9
        clear hS7
        refine wl_assign rfl rfl ?_
        refine wl_nil ?_
        refine qs_seq ?_
        refine wc_ret ?_
        refine qs_then_ret ?_
        refine fin1 (.inr rfl) rfl rfl ?_
        have hnp := ahead_bad he hno hce (hbad (by simpa using (by assumption : (!ok) = true)))
        exact ⟨_, rfl, by rw [(num_none (s := (r, q)) hnp).1], by rw [(num_none (s := (r, q)) hnp).2]; exact hS9⟩
      refine wc_skip ?_
      refine qs_seq ?_
      refine wc_seq ?_
      refine wc_region ?_
      refine wl_move rfl rfl ?_
      refine wl_move rfl rfl ?_
      refine wl_nilCheck rfl rfl ?_
      refine wl_fieldAddr rfl fo_141_0 rfl ?_
      refine wl_load rfl ag_9 (by first | assumption | exact hS7.cell 0 rfl rfl) rfl ?_
      refine wl_move rfl rfl ?_
      refine wl_add rfl rfl (by omega) (by omega) rfl ?_
      refine wl_sliceS (k + 1) r.length Tryz.underlying9 rfl (bndS (k + 1) _ rfl rfl) (bndN _) (by omega) (by omega) rfl ?_
      rw [List.take_length]
      refine wl_nilCheck rfl rfl ?_
      refine wl_fieldAddr rfl fo_141_0 rfl ?_
      first | (refine wl_store hS7 rfl rfl sz_9 (by first | rfl | assumption) (i := 0) rfl (by first | decide | exact Nat.le_of_ble_eq_true rfl | (simp; done) | omega) ?_)
      intro w10 hS11; dsimp only [List.set] at hS11
      clear hS7
      refine wl_nil ?_
      refine qs_seq ?_
      refine wc_sub (L' := [(6, _)]) (.cons rfl .nil) ?_
      refine wc_seq ?_
      refine wc_region ?_
      refine wl_move rfl rfl ?_
      refine wl_assign rfl rfl ?_
      refine wl_nil ?_
      refine qs_seq ?_
      refine wc_ret ?_
      refine fin1 (.inr rfl) rfl rfl ?_
      have hnp := numP_back (least := -9223372036854775808) he hce hvi hvi.1 (hok (by simpa using (by assumption : (!ok) = false)))
      exact ⟨_, rfl, by rw [(num_some (s := (r, q)) hnp).1], by rw [(num_some (s := (r, q)) hnp).2]; exact hS11⟩
    refine wl_unwanted rfl rfl (decide_eq_false h3) rfl ?_
    refine wl_unwanted rfl rfl (decide_eq_false h3) rfl ?_
    refine wl_unwanted rfl rfl (decide_eq_false h3) rfl ?_
    refine wl_unwanted rfl rfl (decide_eq_false h3) rfl ?_
    refine wl_unwanted rfl rfl (decide_eq_false h3) rfl ?_
    refine wl_unwanted rfl rfl (decide_eq_false h3) rfl ?_
    refine wl_unwanted rfl rfl (decide_eq_false h3) rfl ?_
    refine wl_unwanted rfl rfl (decide_eq_false h3) rfl ?_
    refine wl_pickF rfl (decide_eq_false h3) rfl rfl ?_
    refine wl_nil ?_
    refine qs_seq ?_
    refine wc_sub (L' := [(28, _), (0, _), (1, _), (5, _)]) (.cons rfl (.cons rfl (.cons rfl (.cons rfl .nil)))) ?_
    refine wc_condF rfl ?_
    refine wc_exit ?_
    refine qs_then_exit ?_
    refine qs_then_exit ?_
    refine qs_block_exit ?_
    refine qs_seq ?_
    refine wc_seq ?_
    refine wc_seq ?_
    refine wc_region ?_
    refine wl_move rfl rfl ?_
    refine wl_move rfl rfl ?_
    refine wl_nilCheck rfl rfl ?_
    refine wl_fieldAddr rfl fo_141_0 rfl ?_
    refine wl_load rfl ag_9 (by first | assumption | exact hS1.cell 0 rfl rfl) rfl ?_
    refine wl_lenS Tryz.underlying9 rfl rfl ?_
    refine wl_geq rfl rfl rfl ?_
    refine wl_nil ?_
    refine qs_seq ?_
    refine wc_sub (L' := [(37, _), (0, _), (1, _), (5, _)]) (.cons rfl (.cons rfl (.cons rfl (.cons rfl .nil)))) ?_
    refine wc_condD rfl (fun h12 => ?_) (fun h12 => ?_)
    · skip
      exact absurd h12 (by omega)
    obtain ⟨ch2, hc2⟩ : ∃ c, r[k]? = some c := ⟨_, List.getElem?_eq_getElem (by omega)⟩
    refine wc_skip ?_
    refine qs_seq ?_
    refine wc_seq ?_
    refine wc_seq ?_
    refine wc_region ?_
    refine wl_move rfl rfl ?_
    refine wl_nilCheck rfl rfl ?_
    refine wl_fieldAddr rfl fo_141_0 rfl ?_
    refine wl_load rfl ag_9 (by first | assumption | exact hS1.cell 0 rfl rfl) rfl ?_
    refine wl_move rfl rfl ?_
    refine wl_indexS k Tryz.underlying9 rfl rfl (by first | rfl | omega) hc2 rfl ?_
    refine wl_move rfl rfl ?_
    refine wl_neq rfl rfl rfl ?_
    refine wl_nil ?_
    refine qs_seq ?_
    refine wc_sub (L' := [(47, _), (0, _), (5, _)]) (.cons rfl (.cons rfl (.cons rfl .nil))) ?_
    refine wc_condD rfl (fun h13 => ?_) (fun h13 => ?_)
    · skip
      refine wc_seq ?_
      refine wc_region ?_
      refine wl_move rfl rfl ?_
      have hC14 := hS1.split [0] [true, false] rfl; dsimp only [selF, pickA, nthA, List.cons_append, List.nil_append] at hC14
      refine wl_call cal_119 rfl (r1Fail_sp (s := (r, q)) hC14) rfl ?_
      rintro e w14 ⟨_, rfl, rfl, hS14⟩; refine ⟨_, rfl, ?_⟩
      replace hS14 := hS14.join rfl; dsimp only [List.dropLast, List.cons_append, List.nil_append] at hS14; clear hC14
      clear hS1
      refine wl_assign rfl rfl ?_
      refine wl_nil ?_
      refine qs_seq ?_
      refine wc_ret ?_
      refine qs_then_ret ?_
      refine fin1 (.inr rfl) rfl rfl ?_
      have hnp := ahead_far hno (.inr (.inl (by omega)))
      exact ⟨_, rfl, by rw [(num_none (s := (r, q)) hnp).1], by rw [(num_none (s := (r, q)) hnp).2]; exact hS14⟩
    have hce : r[k]? = some e := by have hq9 := UInt8.toNat_inj.1 (show ch2.toNat = e.toNat by omega); rw [hc2, hq9]
    refine wc_skip ?_
    refine qs_seq ?_
    refine wc_seq ?_
    refine wc_region ?_
    refine wl_move rfl rfl ?_
    refine wl_nilCheck rfl rfl ?_
    refine wl_fieldAddr rfl fo_141_0 rfl ?_
    refine wl_load rfl ag_9 (by first | assumption | exact hS1.cell 0 rfl rfl) rfl ?_
    refine wl_move rfl rfl ?_
    refine wl_sliceS 0 k Tryz.underlying9 rfl (bndN _) (bndS k _ rfl rfl) (by omega) (by omega) rfl ?_
    rw [List.drop_zero]
    have hC15 := hS1.split [] [false, false] rfl; dsimp only [selF, pickA, nthA, List.cons_append, List.nil_append] at hC15
    refine wl_call cal_142 rfl (back_sp hC15 (r.take k) (by simp; omega)) rfl ?_
    rintro e w15 ⟨_, rfl, vn, ok, rfl, hvi, hok, hbad, hS15⟩; refine ⟨_, rfl, ?_⟩
    replace hS15 := hS15.join rfl; dsimp only [List.dropLast, List.cons_append, List.nil_append] at hS15; clear hC15
    clear hS1
    refine wl_move rfl rfl ?_
    refine wl_extract rfl rfl rfl ?_
    refine wl_extract rfl rfl rfl ?_
    refine wl_assign rfl rfl ?_
    refine wl_assign rfl rfl ?_
    refine wl_nil ?_
    refine qs_seq ?_
    refine wc_sub (L' := [(7, _), (6, _), (0, _), (5, _)]) (.cons rfl (.cons rfl (.cons rfl (.cons rfl .nil)))) ?_
    refine wc_seq ?_
    refine wc_seq ?_
    refine wc_region ?_
    refine wl_move rfl rfl ?_
    refine wl_not rfl rfl ?_
    refine wl_nil ?_
    refine qs_seq ?_
    refine wc_cond rfl (fun h16 => ?_) (fun h16 => ?_)
    · skip
      refine wc_seq ?_
      refine wc_region ?_
      refine wl_move rfl rfl ?_
      have hC17 := hS15.split [0] [true, false] rfl; dsimp only [selF, pickA, nthA, List.cons_append, List.nil_append] at hC17
      refine wl_call cal_119 rfl (r1Fail_sp (s := (r, q)) hC17) rfl ?_
      rintro e w17 ⟨_, rfl, rfl, hS17⟩; refine ⟨_, rfl, ?_⟩
      replace hS17 := hS17.join rfl; dsimp only [List.dropLast, List.cons_append, List.nil_append] at hS17; clear hC17
      clear hS15
      refine wl_assign rfl rfl ?_
      refine wl_nil ?_
      refine qs_seq ?_
      refine wc_ret ?_
      refine qs_then_ret ?_
      refine fin1 (.inr rfl) rfl rfl ?_
      have hnp := ahead_bad he hno hce (hbad (by simpa using (by assumption : (!ok) = true)))
      exact ⟨_, rfl, by rw [(num_none (s := (r, q)) hnp).1], by rw [(num_none (s := (r, q)) hnp).2]; exact hS17⟩
    refine wc_skip ?_
    refine qs_seq ?_
    refine wc_seq ?_
    refine wc_region ?_
    refine wl_move rfl rfl ?_
    refine wl_move rfl rfl ?_
    refine wl_nilCheck rfl rfl ?_
    refine wl_fieldAddr rfl fo_141_0 rfl ?_
    refine wl_load rfl ag_9 (by first | assumption | exact hS15.cell 0 rfl rfl) rfl ?_
    refine wl_move rfl rfl ?_
    refine wl_add rfl rfl (by omega) (by omega) rfl ?_
    refine wl_sliceS (k + 1) r.length Tryz.underlying9 rfl (bndS (k + 1) _ rfl rfl) (bndN _) (by omega) (by omega) rfl ?_
    rw [List.take_length]
    refine wl_nilCheck rfl rfl ?_
    refine wl_fieldAddr rfl fo_141_0 rfl ?_
    first | (refine wl_store hS15 rfl rfl sz_9 (by first | rfl | assumption) (i := 0) rfl (by first | decide | exact Nat.le_of_ble_eq_true rfl | (simp; done) | omega) ?_)
    intro w18 hS19; dsimp only [List.set] at hS19
    clear hS15
    refine wl_nil ?_
    refine qs_seq ?_
    refine wc_sub (L' := [(6, _)]) (.cons rfl .nil) ?_
    refine wc_seq ?_
    refine wc_region ?_
    refine wl_move rfl rfl ?_
    refine wl_assign rfl rfl ?_
    refine wl_nil ?_
    refine qs_seq ?_
    refine wc_ret ?_
    refine fin1 (.inr rfl) rfl rfl ?_
    have hnp := numP_back (least := -9223372036854775808) he hce hvi hvi.1 (hok (by simpa using (by assumption : (!ok) = false)))
    exact ⟨_, rfl, by rw [(num_some (s := (r, q)) hnp).1], by rw [(num_some (s := (r, q)) hnp).2]; exact hS19⟩
  refine wl_unwanted rfl rfl (decide_eq_false h2) rfl ?_
  refine wl_unwanted rfl rfl (decide_eq_false h2) rfl ?_
  refine wl_pickF rfl (decide_eq_false h2) rfl rfl ?_
  refine wl_move rfl rfl ?_
  refine wl_unwanted rfl rfl rfl rfl ?_
  refine wl_unwanted rfl rfl rfl rfl ?_
  refine wl_unwanted rfl rfl rfl rfl ?_
  refine wl_unwanted rfl rfl rfl rfl ?_
  refine wl_unwanted rfl rfl rfl rfl ?_
  refine wl_unwanted rfl rfl rfl rfl ?_
  refine wl_unwanted rfl rfl rfl rfl ?_
  refine wl_unwanted rfl rfl rfl rfl ?_
  refine wl_pickF rfl rfl rfl rfl ?_
  refine wl_nil ?_
  refine qs_seq ?_
  refine wc_sub (L' := [(28, _), (0, _), (1, _), (5, _)]) (.cons rfl (.cons rfl (.cons rfl (.cons rfl .nil)))) ?_
  refine wc_condF rfl ?_
  refine wc_exit ?_
  refine qs_then_exit ?_
  refine qs_then_exit ?_
  refine qs_block_exit ?_
  refine qs_seq ?_
  refine wc_seq ?_
  refine wc_seq ?_
  refine wc_region ?_
  refine wl_move rfl rfl ?_
  refine wl_move rfl rfl ?_
  refine wl_nilCheck rfl rfl ?_
  refine wl_fieldAddr rfl fo_141_0 rfl ?_
  refine wl_load rfl ag_9 (by first | assumption | exact hS1.cell 0 rfl rfl) rfl ?_
  refine wl_lenS Tryz.underlying9 rfl rfl ?_
  refine wl_geq rfl rfl rfl ?_
  refine wl_nil ?_
  refine qs_seq ?_
  refine wc_sub (L' := [(37, _), (0, _), (1, _), (5, _)]) (.cons rfl (.cons rfl (.cons rfl (.cons rfl .nil)))) ?_
  refine wc_condD rfl (fun h20 => ?_) (fun h20 => ?_)
  · skip
    refine wc_seq ?_
    refine wc_region ?_
    refine wl_move rfl rfl ?_
    have hC21 := hS1.split [0] [true, false] rfl; dsimp only [selF, pickA, nthA, List.cons_append, List.nil_append] at hC21
    refine wl_call cal_119 rfl (r1Fail_sp (s := (r, q)) hC21) rfl ?_
    rintro e w21 ⟨_, rfl, rfl, hS21⟩; refine ⟨_, rfl, ?_⟩
    replace hS21 := hS21.join rfl; dsimp only [List.dropLast, List.cons_append, List.nil_append] at hS21; clear hC21
    clear hS1
    refine wl_assign rfl rfl ?_
    refine wl_nil ?_
    refine qs_seq ?_
    refine wc_ret ?_
    refine qs_then_ret ?_
    refine fin1 (.inr rfl) rfl rfl ?_
    have hnp := ahead_far hno (.inl (by omega))
    exact ⟨_, rfl, by rw [(num_none (s := (r, q)) hnp).1], by rw [(num_none (s := (r, q)) hnp).2]; exact hS21⟩
  obtain ⟨ch2, hc2⟩ : ∃ c, r[k]? = some c := ⟨_, List.getElem?_eq_getElem (by omega)⟩
  refine wc_skip ?_
  refine qs_seq ?_
  refine wc_seq ?_
  refine wc_seq ?_
  refine wc_region ?_
  refine wl_move rfl rfl ?_
  refine wl_nilCheck rfl rfl ?_
  refine wl_fieldAddr rfl fo_141_0 rfl ?_
  refine wl_load rfl ag_9 (by first | assumption | exact hS1.cell 0 rfl rfl) rfl ?_
  refine wl_move rfl rfl ?_
  refine wl_indexS k Tryz.underlying9 rfl rfl (by first | rfl | omega) hc2 rfl ?_
  refine wl_move rfl rfl ?_
  refine wl_neq rfl rfl rfl ?_
  refine wl_nil ?_
  refine qs_seq ?_
  refine wc_sub (L' := [(47, _), (0, _), (5, _)]) (.cons rfl (.cons rfl (.cons rfl .nil))) ?_
  refine wc_condD rfl (fun h22 => ?_) (fun h22 => ?_)
  · skip
    refine wc_seq ?_
    refine wc_region ?_
    refine wl_move rfl rfl ?_
    have hC23 := hS1.split [0] [true, false] rfl; dsimp only [selF, pickA, nthA, List.cons_append, List.nil_append] at hC23
    refine wl_call cal_119 rfl (r1Fail_sp (s := (r, q)) hC23) rfl ?_
    rintro e w23 ⟨_, rfl, rfl, hS23⟩; refine ⟨_, rfl, ?_⟩
    replace hS23 := hS23.join rfl; dsimp only [List.dropLast, List.cons_append, List.nil_append] at hS23; clear hC23
    clear hS1
    refine wl_assign rfl rfl ?_
    refine wl_nil ?_
    refine qs_seq ?_
    refine wc_ret ?_
    refine qs_then_ret ?_
    refine fin1 (.inr rfl) rfl rfl ?_
    have hnp := ahead_far hno (.inr (.inl (by omega)))
    exact ⟨_, rfl, by rw [(num_none (s := (r, q)) hnp).1], by rw [(num_none (s := (r, q)) hnp).2]; exact hS23⟩
  have hce : r[k]? = some e := by have hq9 := UInt8.toNat_inj.1 (show ch2.toNat = e.toNat by omega); rw [hc2, hq9]
  refine wc_skip ?_
  refine qs_seq ?_
  refine wc_seq ?_
  refine wc_region ?_
  refine wl_move rfl rfl ?_
  refine wl_nilCheck rfl rfl ?_
  refine wl_fieldAddr rfl fo_141_0 rfl ?_
  refine wl_load rfl ag_9 (by first | assumption | exact hS1.cell 0 rfl rfl) rfl ?_
  refine wl_move rfl rfl ?_
  refine wl_sliceS 0 k Tryz.underlying9 rfl (bndN _) (bndS k _ rfl rfl) (by omega) (by omega) rfl ?_
  rw [List.drop_zero]
  have hC24 := hS1.split [] [false, false] rfl; dsimp only [selF, pickA, nthA, List.cons_append, List.nil_append] at hC24
  refine wl_call cal_142 rfl (back_sp hC24 (r.take k) (by simp; omega)) rfl ?_
  rintro e w24 ⟨_, rfl, vn, ok, rfl, hvi, hok, hbad, hS24⟩; refine ⟨_, rfl, ?_⟩
  replace hS24 := hS24.join rfl; dsimp only [List.dropLast, List.cons_append, List.nil_append] at hS24; clear hC24
  clear hS1
  refine wl_move rfl rfl ?_
  refine wl_extract rfl rfl rfl ?_
  refine wl_extract rfl rfl rfl ?_
  refine wl_assign rfl rfl ?_
  refine wl_assign rfl rfl ?_
  refine wl_nil ?_
  refine qs_seq ?_
  refine wc_sub (L' := [(7, _), (6, _), (0, _), (5, _)]) (.cons rfl (.cons rfl (.cons rfl (.cons rfl .nil)))) ?_
  refine wc_seq ?_
  refine wc_seq ?_
  refine wc_region ?_
  refine wl_move rfl rfl ?_
  refine wl_not rfl rfl ?_
  refine wl_nil ?_
  refine qs_seq ?_
  refine wc_cond rfl (fun h25 => ?_) (fun h25 => ?_)
  · skip
    refine wc_seq ?_
    refine wc_region ?_
    refine wl_move rfl rfl ?_
    have hC26 := hS24.split [0] [true, false] rfl; dsimp only [selF, pickA, nthA, List.cons_append, List.nil_append] at hC26
    refine wl_call cal_119 rfl (r1Fail_sp (s := (r, q)) hC26) rfl ?_
    rintro e w26 ⟨_, rfl, rfl, hS26⟩; refine ⟨_, rfl, ?_⟩
    replace hS26 := hS26.join rfl; dsimp only [List.dropLast, List.cons_append, List.nil_append] at hS26; clear hC26
    clear hS24
    refine wl_assign rfl rfl ?_
    refine wl_nil ?_
    refine qs_seq ?_
    refine wc_ret ?_
    refine qs_then_ret ?_
    refine fin1 (.inr rfl) rfl rfl ?_
    have hnp := ahead_bad he hno hce (hbad (by simpa using (by assumption : (!ok) = true)))
    exact ⟨_, rfl, by rw [(num_none (s := (r, q)) hnp).1], by rw [(num_none (s := (r, q)) hnp).2]; exact hS26⟩
  refine wc_skip ?_
  refine qs_seq ?_
  refine wc_seq ?_
  refine wc_region ?_
  refine wl_move rfl rfl ?_
  refine wl_move rfl rfl ?_
  refine wl_nilCheck rfl rfl ?_
  refine wl_fieldAddr rfl fo_141_0 rfl ?_
  refine wl_load rfl ag_9 (by first | assumption | exact hS24.cell 0 rfl rfl) rfl ?_
  refine wl_move rfl rfl ?_
  refine wl_add rfl rfl (by omega) (by omega) rfl ?_
  refine wl_sliceS (k + 1) r.length Tryz.underlying9 rfl (bndS (k + 1) _ rfl rfl) (bndN _) (by omega) (by omega) rfl ?_
  rw [List.take_length]
  refine wl_nilCheck rfl rfl ?_
  refine wl_fieldAddr rfl fo_141_0 rfl ?_
  first | (refine wl_store hS24 rfl rfl sz_9 (by first | rfl | assumption) (i := 0) rfl (by first | decide | exact Nat.le_of_ble_eq_true rfl | (simp; done) | omega) ?_)
  intro w27 hS28; dsimp only [List.set] at hS28
  clear hS24
  refine wl_nil ?_
  refine qs_seq ?_
  refine wc_sub (L' := [(6, _)]) (.cons rfl .nil) ?_
  refine wc_seq ?_
  refine wc_region ?_
  refine wl_move rfl rfl ?_
  refine wl_assign rfl rfl ?_
  refine wl_nil ?_
  refine qs_seq ?_
  refine wc_ret ?_
  refine fin1 (.inr rfl) rfl rfl ?_
  have hnp := numP_back (least := -9223372036854775808) he hce hvi hvi.1 (hok (by simpa using (by assumption : (!ok) = false)))
  exact ⟨_, rfl, by rw [(num_some (s := (r, q)) hnp).1], by rw [(num_some (s := (r, q)) hnp).2]; exact hS28⟩
theorem r1RInt_sp {w : World} {F : Th} {b : Nat} {s : Bs × Bool} (hS : Sat w [readT b s, F]) (hrl : s.1.length ≤ 9223372036854775806) :
    Calls Tryz.prog 90 #[ptrV b 0] w (Ret fun v w' => v = intV (numV 59 (-9223372036854775808) s) ∧ Sat w' [readT b (numR 59 (-9223372036854775808) s), F]) := by
  refine calls_enter Tryz.func90 rfl Tryz.ntmps90 rfl ?_
  refine wc_seq ?_
  refine wc_region ?_
  refine wl_assign rfl rfl ?_
  refine wl_nil ?_
  refine qs_seq ?_
  refine wc_seq ?_
  refine wc_region ?_
  refine wl_move rfl rfl ?_
  have hC1 := hS.split [0] [true, false] rfl; dsimp only [selF, pickA, nthA, List.cons_append, List.nil_append] at hC1
  refine wl_call cal_117 rfl (ahead_sp hC1 59 (by decide) hrl) rfl ?_
  rintro e w1 ⟨_, rfl, rfl, hS1⟩; refine ⟨_, rfl, ?_⟩
  replace hS1 := hS1.join rfl; dsimp only [List.dropLast, List.cons_append, List.nil_append] at hS1; clear hC1
  refine wl_assign rfl rfl ?_
  refine wl_nil ?_
  refine qs_seq ?_
  refine wc_ret ?_
  refine fin1 (.inr rfl) rfl rfl ?_
  exact ⟨_, rfl, rfl, hS1⟩
end Go.Proofs.YtcbdclhoekokpaaGreatDoor
