/- laws of world: WorldClones -/
import Derived.Test.YtieelilkkpcmdaaDoorWcp
import Derived.Test.YtieelilkkpcmdaaDoorWpg
namespace Go.Proofs.YtieelilkkpcmdaaDoor
open Go.RowKit M
set_option linter.unusedVariables false
def AllEq {α : Type} (l : List α) (P : α → Prop) (j : Nat) : Prop := ∀ i k, i < j → l[i]? = some k → P k
theorem AllEq.zero {α : Type} (l : List α) (P : α → Prop) : AllEq l P 0 := fun i k h => by omega
theorem all_yes {α : Type} {l : List α} {P : α → Prop} {C : Prop} {s : Bool} {j : Nat} {x : α} {d : Decidable (P x)} (h : s = true ↔ C ∧ AllEq l P j) (hx : l[j]? = some x) (hs : s = true) : @decide (P x) d = true ↔ C ∧ AllEq l P (j + 1) := by
  obtain ⟨h1, h2⟩ := h.1 hs
  constructor
  · intro hp
    refine ⟨h1, fun i k hi hk => ?_⟩
    by_cases e : i = j
    · subst e; rw [hx] at hk; cases hk; exact of_decide_eq_true hp
    · exact h2 i k (by omega) hk
  · intro hp; exact decide_eq_true (hp.2 j x (by omega) hx)
theorem all_no {α : Type} {l : List α} {P : α → Prop} {C : Prop} {s : Bool} {j : Nat} (h : s = true ↔ C ∧ AllEq l P j) (hs : s = false) : false = true ↔ C ∧ AllEq l P (j + 1) := by
  subst hs
  constructor
  · intro q; cases q
  · intro q; exact h.2 ⟨q.1, fun i k hi hk => q.2 i k (by omega) hk⟩
theorem all_end {α : Type} {l : List α} {P : α → Prop} {C : Prop} {s : Bool} {j : Nat} (h : s = true ↔ C ∧ AllEq l P j) (hj : l.length ≤ j) : s = true ↔ C ∧ ∀ k ∈ l, P k := by
  rw [h]
  refine and_congr_right fun _ => ⟨fun q k hk => ?_, fun q i k _ hk => q k (List.mem_of_getElem? hk)⟩
  obtain ⟨i, hi⟩ := List.mem_iff_getElem?.1 hk
  exact q i k (by have := (List.getElem?_eq_some_iff.1 hi).1; omega) hi
theorem keysIn_mono {c : Bs → Bs} {n m : Nat} (h : KeysIn c n) (hm : n ≤ m) : KeysIn c m := ⟨let ⟨ks, h1, h2⟩ := h.few; ⟨ks, by omega, h2⟩, h.short⟩
theorem few_all {l : List OpD} {n : Int} (h : fewB l n = true) : l.all fitsB = true ∧ (l.length : Int) ≤ n := by
  simp only [fewB, Bool.and_eq_true, decide_eq_true_eq] at h; exact h
theorem clone_keys {l m : List OpD} (hm : fewB m 30 = true) : KeysIn (playF (playedW l) m).cells 1000000 ∧ ObjsIn (playF (playedW l) m).objs 1000000 := by
  obtain ⟨h1, h2⟩ := few_all hm
  have a := playF_inv (played_inv l) h1 m.length (Nat.le_refl _)
  have b := playF_objs (l := m) (played_objs l) m.length (Nat.le_refl _)
  rw [List.take_length] at a b
  exact ⟨keysIn_mono a.keys (by omega), b.mono (by omega)⟩
theorem played_keys (l : List OpD) : KeysIn (playedW l).cells 1000000 ∧ ObjsIn (playedW l).objs 1000000 := ⟨keysIn_mono (played_inv l).keys (by omega), (played_objs l).mono (by omega)⟩
set_option maxRecDepth 100000 in
set_option maxHeartbeats 1000000 in
theorem clones_law {w : World} {F : Th} (hS : Sat w [F]) {lv mv : Value} {l m : List OpD} (hL : Ent F (RdL opC lv l)) (hM : Ent F (RdL opC mv m)) :
    Calls Tryd.prog 5 #[lv, mv] w (Ret fun v w' => v = .bool true ∧ Sat w' [F]) := by
  obtain ⟨ao, cap, rfl, hmax⟩ := (hL.sat hS 0 rfl).shape
  obtain ⟨am, capm, rfl, hmaxm⟩ := (hM.sat hS 0 rfl).shape
  refine calls_enter Tryd.func5 rfl Tryd.ntmps5 rfl ?_
  refine wc_seq ?_
  refine wc_region ?_
  refine wl_assign rfl rfl ?_
  refine wl_nil ?_
  refine qs_seq ?_
  refine wc_seq ?_
  refine wc_region ?_
  have hC1 := hS.split [] [false] rfl; dsimp only [selF, pickA, nthA, List.cons_append, List.nil_append] at hC1
  refine wl_call cal_9 rfl (small_sp hC1) rfl ?_
  rintro e w1 ⟨_, rfl, rfl, hS1⟩; refine ⟨_, rfl, ?_⟩
  replace hS1 := hS1.join rfl; dsimp only [List.dropLast, List.cons_append, List.nil_append] at hS1; clear hC1
  refine wl_assign rfl rfl ?_
  refine wl_nil ?_
  refine qs_seq ?_
  refine wc_seq ?_
  refine wc_region ?_
  refine wl_move rfl rfl ?_
  have hC2 := hS1.split [] [false] rfl; dsimp only [selF, pickA, nthA, List.cons_append, List.nil_append] at hC2
  refine wl_call cal_10 rfl (played_sp hC2 (hL.starL 0 rfl)) rfl ?_
  rintro e w2 ⟨_, rfl, p, rfl, hS2⟩; refine ⟨_, rfl, ?_⟩
  replace hS2 := hS2.join rfl; dsimp only [List.dropLast, List.cons_append, List.nil_append] at hS2; clear hC2
  clear hS1
  refine wl_assign rfl rfl ?_
  refine wl_nil ?_
  refine qs_seq ?_
  refine wc_seq ?_
  refine wc_region ?_
  refine wl_move rfl rfl ?_
  have hC3 := hS2.split [] [false, false] rfl; dsimp only [selF, pickA, nthA, List.cons_append, List.nil_append] at hC3
  refine wl_call cal_10 rfl (played_sp hC3 (hL.starL 1 rfl)) rfl ?_
  rintro e w3 ⟨_, rfl, hq, rfl, hS3⟩; refine ⟨_, rfl, ?_⟩
  replace hS3 := hS3.join rfl; dsimp only [List.dropLast, List.cons_append, List.nil_append] at hS3; clear hC3
  clear hS2
  refine wl_assign rfl rfl ?_
  refine wl_nil ?_
  refine qs_seq ?_
  refine wc_sub (L' := [(7, _), (6, _), (5, _), (4, _), (0, _), (1, _)]) (.cons rfl (.cons rfl (.cons rfl (.cons rfl (.cons rfl (.cons rfl .nil)))))) ?_
  refine wc_seq ?_
  refine wc_seq ?_
  refine wc_region ?_
  refine wl_move rfl rfl ?_
  have hC4 := hS3.split [] [false, false, false] rfl; dsimp only [selF, pickA, nthA, List.cons_append, List.nil_append] at hC4
  refine wl_call cal_11 rfl (few_sp hC4 (hL.starL 2 rfl) 30) rfl ?_
  rintro e w4 ⟨_, rfl, rfl, hS4⟩; refine ⟨_, rfl, ?_⟩
  replace hS4 := hS4.join rfl; dsimp only [List.dropLast, List.cons_append, List.nil_append] at hS4; clear hC4
  clear hS3
  refine wl_not rfl rfl ?_
  refine wl_move rfl rfl ?_
  refine wl_split 25 rfl (fun h5 => ?_) (fun h5 => ?_)
  · skip
    refine wl_unwanted rfl rfl h5 rfl ?_
    refine wl_unwanted rfl rfl h5 rfl ?_
    refine wl_unwanted rfl rfl h5 rfl ?_
    refine wl_pickT rfl h5 rfl rfl ?_
    refine wl_move rfl rfl ?_
    refine wl_unwanted rfl rfl rfl rfl ?_
    refine wl_unwanted rfl rfl rfl rfl ?_
    refine wl_pickT rfl rfl rfl rfl ?_
    refine wl_move rfl rfl ?_
    refine wl_unwanted rfl rfl rfl rfl ?_
    refine wl_unwanted rfl rfl rfl rfl ?_
    refine wl_pickT rfl rfl rfl rfl ?_
    refine wl_nil ?_
    refine qs_seq ?_
    refine wc_sub (L' := [(37, _), (7, _), (6, _), (5, _), (4, _), (0, _), (1, _)]) (.cons rfl (.cons rfl (.cons rfl (.cons rfl (.cons rfl (.cons rfl (.cons rfl .nil))))))) ?_
    refine wc_condT rfl ?_
    refine wc_seq ?_
    refine wc_region ?_
    refine wl_move rfl rfl ?_
    refine wl_move rfl rfl ?_
    refine wl_guard rfl rfl rfl ?_
    refine wl_move rfl rfl ?_
    refine wl_guard rfl rfl rfl ?_
    refine wl_neqNil Tryd.underlying26 rfl rfl rfl ?_
    refine wl_pickT rfl rfl rfl rfl ?_
    refine wl_move rfl rfl ?_
    refine wl_guard rfl rfl rfl ?_
    refine wl_move rfl rfl ?_
    refine wl_guard rfl rfl rfl ?_
    refine wl_neqNil Tryd.underlying26 rfl rfl rfl ?_
    refine wl_pickT rfl rfl rfl rfl ?_
    refine wl_assign rfl rfl ?_
    refine wl_nil ?_
    refine qs_seq ?_
    refine wc_sub (L' := [(4, _), (7, _), (6, _), (5, _), (0, _), (1, _)]) (.cons rfl (.cons rfl (.cons rfl (.cons rfl (.cons rfl (.cons rfl .nil)))))) ?_
    refine wc_ret ?_
    refine qs_then_ret ?_
    refine fin1 (.inr rfl) rfl rfl ?_
    exact ⟨_, rfl, rfl, hS4.pick [2] rfl⟩
  · skip
    have hfl : fewB l 30 = true := by simpa using h5
    have hll := (few_all hfl).2
    refine wl_guard rfl rfl h5 ?_
    refine wl_move rfl rfl ?_
    refine wl_guard rfl rfl h5 ?_
    have hC6 := hS4.split [] [false, false, false] rfl; dsimp only [selF, pickA, nthA, List.cons_append, List.nil_append] at hC6
    refine wl_call cal_11 rfl (few_sp hC6 (hM.starL 2 rfl) 30) rfl ?_
    rintro e w6 ⟨_, rfl, rfl, hS6⟩; refine ⟨_, rfl, ?_⟩
    replace hS6 := hS6.join rfl; dsimp only [List.dropLast, List.cons_append, List.nil_append] at hS6; clear hC6
    clear hS4
    refine wl_guard rfl rfl h5 ?_
    refine wl_not rfl rfl ?_
    refine wl_pickF rfl h5 rfl rfl ?_
    refine wl_move rfl rfl ?_
    refine wl_split 30 rfl (fun h7 => ?_) (fun h7 => ?_)
    · skip
      refine wl_unwanted rfl rfl h7 rfl ?_
      refine wl_unwanted rfl rfl h7 rfl ?_
      refine wl_pickT rfl h7 rfl rfl ?_
      refine wl_move rfl rfl ?_
      refine wl_unwanted rfl rfl rfl rfl ?_
      refine wl_unwanted rfl rfl rfl rfl ?_
      refine wl_pickT rfl rfl rfl rfl ?_
      refine wl_nil ?_
      refine qs_seq ?_
      refine wc_sub (L' := [(37, _), (7, _), (6, _), (5, _), (4, _), (0, _), (1, _)]) (.cons rfl (.cons rfl (.cons rfl (.cons rfl (.cons rfl (.cons rfl (.cons rfl .nil))))))) ?_
      refine wc_condT rfl ?_
      refine wc_seq ?_
      refine wc_region ?_
      refine wl_move rfl rfl ?_
      refine wl_move rfl rfl ?_
      refine wl_guard rfl rfl rfl ?_
      refine wl_move rfl rfl ?_
      refine wl_guard rfl rfl rfl ?_
      refine wl_neqNil Tryd.underlying26 rfl rfl rfl ?_
      refine wl_pickT rfl rfl rfl rfl ?_
      refine wl_move rfl rfl ?_
      refine wl_guard rfl rfl rfl ?_
      refine wl_move rfl rfl ?_
      refine wl_guard rfl rfl rfl ?_
      refine wl_neqNil Tryd.underlying26 rfl rfl rfl ?_
      refine wl_pickT rfl rfl rfl rfl ?_
      refine wl_assign rfl rfl ?_
      refine wl_nil ?_
      refine qs_seq ?_
      refine wc_sub (L' := [(4, _), (7, _), (6, _), (5, _), (0, _), (1, _)]) (.cons rfl (.cons rfl (.cons rfl (.cons rfl (.cons rfl (.cons rfl .nil)))))) ?_
      refine wc_ret ?_
      refine qs_then_ret ?_
      refine fin1 (.inr rfl) rfl rfl ?_
      exact ⟨_, rfl, rfl, hS6.pick [2] rfl⟩
    · skip
      have hfm : fewB m 30 = true := by simpa using h7
      have hall := (few_all hfm).1
      have hml := (few_all hfm).2
      refine wl_guard rfl rfl h7 ?_
      refine wl_move rfl rfl ?_
      refine wl_guard rfl rfl h7 ?_
      refine wl_eqlNil Tryd.underlying26 rfl rfl rfl ?_
      refine wl_pickF rfl h7 rfl rfl ?_
      refine wl_move rfl rfl ?_
      refine wl_guard rfl rfl rfl ?_
      refine wl_move rfl rfl ?_
      refine wl_guard rfl rfl rfl ?_
      refine wl_eqlNil Tryd.underlying26 rfl rfl rfl ?_
      refine wl_pickF rfl rfl rfl rfl ?_
      refine wl_nil ?_
      refine qs_seq ?_
      refine wc_sub (L' := [(37, _), (7, _), (6, _), (5, _), (4, _), (0, _), (1, _)]) (.cons rfl (.cons rfl (.cons rfl (.cons rfl (.cons rfl (.cons rfl (.cons rfl .nil))))))) ?_
      refine wc_condF rfl ?_
      refine wc_skip ?_
      refine qs_seq ?_
      refine wc_seq ?_
      refine wc_region ?_
      refine wl_move rfl rfl ?_
      have hC8 := hS6.split [1] [false, true, false] rfl; dsimp only [selF, pickA, nthA, List.cons_append, List.nil_append] at hC8
      refine wl_call cal_19 rfl (clone_w hC8) rfl ?_
      rintro e w8 ⟨_, rfl, gq, rfl, hS8⟩; refine ⟨_, rfl, ?_⟩
      replace hS8 := hS8.join rfl; dsimp only [List.dropLast, List.cons_append, List.nil_append] at hS8; clear hC8
      clear hS6
      have hI := world_ok 1 hS8 rfl
      refine wl_assign rfl rfl ?_
      refine wl_nil ?_
      refine qs_seq ?_
      refine wc_seq ?_
      refine wc_seq ?_
      refine wc_region ?_
      refine wl_move rfl rfl ?_
      refine wl_eqlNil Tryd.underlying26 rfl rfl rfl ?_
      refine wl_nil ?_
      refine qs_seq ?_
      refine wc_sub (L' := [(50, _), (8, _), (7, _), (6, _), (5, _), (4, _), (0, _), (1, _)]) (.cons rfl (.cons rfl (.cons rfl (.cons rfl (.cons rfl (.cons rfl (.cons rfl (.cons rfl .nil)))))))) ?_
      refine wc_condF rfl ?_
      refine wc_skip ?_
      refine qs_seq ?_
      refine wc_seq ?_
      refine wc_seq ?_
      refine wc_region ?_
      refine wl_move rfl rfl ?_
      refine wl_move rfl rfl ?_
      have hC9 := hS8.split [1, 0] [true, true, false, false] rfl; dsimp only [selF, pickA, nthA, List.cons_append, List.nil_append] at hC9
      refine wl_call cal_21 rfl (same_w hC9) rfl ?_
      rintro e w9 ⟨_, rfl, g9, rfl, hg9, hS9⟩; refine ⟨_, rfl, ?_⟩
      replace hS9 := hS9.join rfl; dsimp only [List.dropLast, List.cons_append, List.nil_append] at hS9; clear hC9
      clear hS8
      obtain rfl := hg9.2 rfl
      refine wl_not rfl rfl ?_
      refine wl_move rfl rfl ?_
      refine wl_guard rfl rfl rfl ?_
      refine wl_move rfl rfl ?_
      refine wl_guard rfl rfl rfl ?_
      refine wl_move rfl rfl ?_
      refine wl_guard rfl rfl rfl ?_
      have hC10 := hS9.split [0, 2] [true, false, true, false] rfl; dsimp only [selF, pickA, nthA, List.cons_append, List.nil_append] at hC10
      refine wl_call cal_21 rfl (same_w hC10) rfl ?_
      rintro e w10 ⟨_, rfl, g9, rfl, hg9, hS10⟩; refine ⟨_, rfl, ?_⟩
      replace hS10 := hS10.join rfl; dsimp only [List.dropLast, List.cons_append, List.nil_append] at hS10; clear hC10
      clear hS9
      obtain rfl := hg9.2 rfl
      refine wl_guard rfl rfl rfl ?_
      refine wl_not rfl rfl ?_
      refine wl_pickF rfl rfl rfl rfl ?_
      refine wl_nil ?_
      refine qs_seq ?_
      refine wc_sub (L' := [(60, _), (8, _), (7, _), (6, _), (5, _), (4, _), (0, _), (1, _)]) (.cons rfl (.cons rfl (.cons rfl (.cons rfl (.cons rfl (.cons rfl (.cons rfl (.cons rfl .nil)))))))) ?_
      refine wc_condKF rfl rfl ?_
      refine wc_skip ?_
      refine qs_seq ?_
      refine wc_seq ?_
      refine wc_seq ?_
      refine wc_region ?_
      refine wl_assign rfl rfl ?_
      refine wl_nil ?_
      refine qs_seq ?_
      refine wc_block ?_
      refine wc_loop (fun K0 E0 W0 => ∃ (i : Nat), K0 = m.length - i ∧ E0 = [(0, .slice ao l.length cap), (1, .slice am m.length capm), (5, .bool true), (6, ptrV p 0), (7, ptrV hq 0), (8, ptrV gq 0), (9, intV (i : Int))] ∧ Sat W0 [worldT gq (playF (playedW l) (m.take i)), worldT p (playedW l), worldT hq (playedW l), F] ∧ (i ≤ m.length)) (L0 := [(0, _), (1, _), (5, _), (6, _), (7, _), (8, _), (9, _)]) (m.length - 0) (.cons rfl (.cons rfl (.cons rfl (.cons rfl (.cons rfl (.cons rfl (.cons rfl .nil))))))) ⟨0, rfl, rfl, hS10.pick [2, 0, 1, 3] rfl, by omega⟩ ?_
      rintro _ _ w11 ⟨i, rfl, rfl, hS11, hi⟩
      refine wc_seq ?_
      refine wc_seq ?_
      refine wc_region ?_
      refine wl_move rfl rfl ?_
      refine wl_move rfl rfl ?_
      refine wl_lenL Tryd.underlying22 rfl rfl ?_
      refine wl_lss rfl rfl rfl ?_
      refine wl_nil ?_
      refine qs_seq ?_
      refine wc_sub (L' := [(64, _), (0, _), (1, _), (5, _), (6, _), (7, _), (8, _), (9, _)]) (.cons rfl (.cons rfl (.cons rfl (.cons rfl (.cons rfl (.cons rfl (.cons rfl (.cons rfl .nil)))))))) ?_
      refine wc_condD rfl (fun h12 => ?_) (fun h12 => ?_)
      · skip
        obtain ⟨o, ho⟩ : ∃ o, m[i]? = some o := ⟨_, List.getElem?_eq_getElem (by omega)⟩
        obtain ⟨b, off, rfl, hc⟩ := (hM.sat hS11 3 rfl).get ho
        refine wc_skip ?_
        refine qs_seq ?_
        refine wc_seq ?_
        refine wc_block ?_
        refine wc_region ?_
        refine wl_move rfl rfl ?_
        refine wl_move rfl rfl ?_
        refine wl_move rfl rfl ?_
        refine wl_indexAddr _ rfl rfl (by first | rfl | omega) (by omega) es_22 rfl ?_
        refine wl_loadAt rfl ag_24 sz_24 (vs := opV o) hc rfl ?_
        have hC13 := hS11.split [0] [true, false, false, false] rfl; dsimp only [selF, pickA, nthA, List.cons_append, List.nil_append] at hC13
        refine wl_call cal_18 rfl (do_sp hC13 o (fit_of (List.all_eq_true.1 hall _ (List.mem_of_getElem? ho))) (playF_inv (played_inv l) hall i (by omega)) (by omega)) rfl ?_
        rintro e w13 ⟨_, rfl, rfl, hS13⟩; refine ⟨_, rfl, ?_⟩
        replace hS13 := hS13.join rfl; dsimp only [List.dropLast, List.cons_append, List.nil_append] at hS13; clear hC13
        clear hS11
        refine wl_nil ?_
        refine qs_block_normal ?_
        refine qs_seq ?_
        refine wc_sub (L' := [(0, _), (1, _), (5, _), (6, _), (7, _), (8, _), (9, _)]) (.cons rfl (.cons rfl (.cons rfl (.cons rfl (.cons rfl (.cons rfl (.cons rfl .nil))))))) ?_
        refine wc_region ?_
        refine wl_move rfl rfl ?_
        refine wl_add rfl rfl (by omega) (by omega) rfl ?_
        refine wl_assign rfl rfl ?_
        refine wl_nil ?_
        exact qs_round (L1 := [(0, _), (1, _), (5, _), (6, _), (7, _), (8, _), (9, intV ((i + 1 : Nat) : Int))]) (.cons rfl (.cons rfl (.cons rfl (.cons rfl (.cons rfl (.cons rfl (.cons rfl .nil))))))) (k1 := m.length - (i + 1)) (by omega) ⟨i + 1, rfl, rfl, by rw [playF_step ho]; exact hS13.pick [0, 1, 2, 3] rfl, by omega⟩
      · skip
        refine wc_exit ?_
        refine qs_then_exit ?_
        refine qs_then_exit ?_
        refine qs_block_exit ?_
        refine qs_seq ?_
        refine wc_seq ?_
        refine wc_seq ?_
        have hSq := hS11; rw [List.take_of_length_le (by omega)] at hSq
        clear hS11
        have hI2 := world_ok 0 hSq rfl
        have hkw := played_keys l
        have hkg := clone_keys (l := l) hfm
        refine wc_region ?_
        refine wl_move rfl rfl ?_
        refine wl_move rfl rfl ?_
        have hC14 := hSq.split [1, 2] [false, true, true, false] rfl; dsimp only [selF, pickA, nthA, List.cons_append, List.nil_append] at hC14
        refine wl_call cal_21 rfl (same_w hC14) rfl ?_
        rintro e w14 ⟨_, rfl, g9, rfl, hg9, hS14⟩; refine ⟨_, rfl, ?_⟩
        replace hS14 := hS14.join rfl; dsimp only [List.dropLast, List.cons_append, List.nil_append] at hS14; clear hC14
        clear hSq
        obtain rfl := hg9.2 rfl
        refine wl_not rfl rfl ?_
        refine wl_nil ?_
        refine qs_seq ?_
        refine wc_sub (L' := [(76, _), (0, _), (1, _), (5, _), (6, _), (8, _)]) (.cons rfl (.cons rfl (.cons rfl (.cons rfl (.cons rfl (.cons rfl .nil)))))) ?_
        refine wc_condKF rfl rfl ?_
        refine wc_skip ?_
        refine qs_seq ?_
        refine wc_mid (fun E0 W0 => ∃ (s : Bool), E0 = [(0, .slice ao l.length cap), (1, .slice am m.length capm), (5, .bool true), (6, ptrV p 0), (8, ptrV gq 0), (10, .bool s)] ∧ Sat W0 [worldT p (playedW l), worldT gq (playF (playedW l) m), worldT hq (playedW l), F] ∧ (s = true ↔ CloneEq (playedW l) (playF (playedW l) m))) ?_ ?_
        · skip
          refine wc_region ?_
          refine wl_move rfl rfl ?_
          have hC16 := hS14.split [0] [true, false, false, false] rfl; dsimp only [selF, pickA, nthA, List.cons_append, List.nil_append] at hC16
          refine wl_call cal_23 rfl (keys_sp hC16 [] hkw.1) rfl ?_
          rintro e w16 ⟨_, rfl, lk1, hk1, hS16⟩; refine ⟨_, rfl, ?_⟩
          replace hS16 := hS16.join rfl; dsimp only [List.dropLast, List.cons_append, List.nil_append] at hS16; clear hC16
          clear hS14
          refine wl_move rfl rfl ?_
          have hC17 := hS16.split [3] [false, false, false, true, false] rfl; dsimp only [selF, pickA, nthA, List.cons_append, List.nil_append] at hC17
          refine wl_call cal_23 rfl (keys_sp hC17 [] hkg.1) rfl ?_
          rintro e w17 ⟨_, rfl, lk2, hk2, hS17⟩; refine ⟨_, rfl, ?_⟩
          replace hS17 := hS17.join rfl; dsimp only [List.dropLast, List.cons_append, List.nil_append] at hS17; clear hC17
          clear hS16
          have hC18 := hS17.split [] [false, false, false, false, false, false] rfl; dsimp only [selF, pickA, nthA, List.cons_append, List.nil_append] at hC18
          refine wl_call cal_22 rfl (same_sp hC18 (Ent.starL (ent_row (C := stC) (l := lk1) (by have := keysOf_len' hk1 hkw.1; omega)) 2 rfl) (Ent.starL (ent_row (C := stC) (l := lk2) (by have := keysOf_len' hk2 hkg.1; omega)) 0 rfl)) rfl ?_
          rintro e w18 ⟨_, rfl, rfl, hS18⟩; refine ⟨_, rfl, ?_⟩
          replace hS18 := hS18.join rfl; dsimp only [List.dropLast, List.cons_append, List.nil_append] at hS18; clear hC18
          clear hS17
          refine wl_move rfl rfl ?_
          refine wl_split 82 rfl (fun h19 => ?_) (fun h19 => ?_)
          · skip
            refine wl_guard rfl rfl h19 ?_
            refine wl_move rfl rfl ?_
            refine wl_guard rfl rfl h19 ?_
            have hC20 := hS18.split [3] [false, false, false, true, false, false] rfl; dsimp only [selF, pickA, nthA, List.cons_append, List.nil_append] at hC20
            refine wl_call cal_24 rfl (objects_sp hC20 hkw.2) rfl ?_
            rintro e w20 ⟨_, rfl, ln1, hn1, hS20⟩; refine ⟨_, rfl, ?_⟩
            replace hS20 := hS20.join rfl; dsimp only [List.dropLast, List.cons_append, List.nil_append] at hS20; clear hC20
            clear hS18
            refine wl_guard rfl rfl h19 ?_
            refine wl_move rfl rfl ?_
            refine wl_guard rfl rfl h19 ?_
            have hC21 := hS20.split [3] [false, false, false, true, false, false, false] rfl; dsimp only [selF, pickA, nthA, List.cons_append, List.nil_append] at hC21
            refine wl_call cal_24 rfl (objects_sp hC21 hkg.2) rfl ?_
            rintro e w21 ⟨_, rfl, ln2, hn2, hS21⟩; refine ⟨_, rfl, ?_⟩
            replace hS21 := hS21.join rfl; dsimp only [List.dropLast, List.cons_append, List.nil_append] at hS21; clear hC21
            clear hS20
            refine wl_guard rfl rfl h19 ?_
            have hC22 := hS21.split [] [false, false, false, false, false, false, false, false] rfl; dsimp only [selF, pickA, nthA, List.cons_append, List.nil_append] at hC22
            refine wl_call cal_22 rfl (same_sp hC22 (Ent.starL (ent_row (C := stC) (l := ln1) (by have := namesOf_len hn1 hkw.2; omega)) 2 rfl) (Ent.starL (ent_row (C := stC) (l := ln2) (by have := namesOf_len hn2 hkg.2; omega)) 0 rfl)) rfl ?_
            rintro e w22 ⟨_, rfl, rfl, hS22⟩; refine ⟨_, rfl, ?_⟩
            replace hS22 := hS22.join rfl; dsimp only [List.dropLast, List.cons_append, List.nil_append] at hS22; clear hC22
            clear hS21
            refine wl_pickT rfl h19 rfl rfl ?_
            refine wl_move rfl rfl ?_
            refine wl_split 89 rfl (fun h23 => ?_) (fun h23 => ?_)
            · skip
              refine wl_guard rfl rfl h23 ?_
              refine wl_move rfl rfl ?_
              refine wl_guard rfl rfl h23 ?_
              have hC24 := hS22.split [3] [false, false, false, true, false, false, false, false] rfl; dsimp only [selF, pickA, nthA, List.cons_append, List.nil_append] at hC24
              refine wl_call cal_17 rfl (start_sp hC24) rfl ?_
              rintro e w24 ⟨_, rfl, rfl, hS24⟩; refine ⟨_, rfl, ?_⟩
              replace hS24 := hS24.join rfl; dsimp only [List.dropLast, List.cons_append, List.nil_append] at hS24; clear hC24
              clear hS22
              refine wl_guard rfl rfl h23 ?_
              refine wl_move rfl rfl ?_
              refine wl_guard rfl rfl h23 ?_
              have hC25 := hS24.split [2] [false, false, true, false, false, false, false, false] rfl; dsimp only [selF, pickA, nthA, List.cons_append, List.nil_append] at hC25
              refine wl_call cal_17 rfl (start_sp hC25) rfl ?_
              rintro e w25 ⟨_, rfl, rfl, hS25⟩; refine ⟨_, rfl, ?_⟩
              replace hS25 := hS25.join rfl; dsimp only [List.dropLast, List.cons_append, List.nil_append] at hS25; clear hC25
              clear hS24
              refine wl_guard rfl rfl h23 ?_
              refine wl_eql rfl rfl rfl ?_
              refine wl_pickT rfl h23 rfl rfl ?_
              refine wl_assign rfl rfl ?_
              refine wl_nil ?_
              exact qs_mid (.cons rfl (.cons rfl (.cons rfl (.cons rfl (.cons rfl (.cons rfl .nil)))))) ⟨_, rfl, hS25.pick [1, 0, 6, 7] rfl, ⟨fun e => ⟨(keys_iff hk1 hk2).1 (of_decide_eq_true (by assumption)), (names_iff hn1 hn2).1 (of_decide_eq_true (by assumption)), of_decide_eq_true e⟩, fun q => decide_eq_true q.time⟩⟩
            · skip
              refine wl_unwanted rfl rfl h23 rfl ?_
              refine wl_unwanted rfl rfl h23 rfl ?_
              refine wl_unwanted rfl rfl h23 rfl ?_
              refine wl_unwanted rfl rfl h23 rfl ?_
              refine wl_unwanted rfl rfl h23 rfl ?_
              refine wl_pickF rfl h23 rfl rfl ?_
              refine wl_assign rfl rfl ?_
              refine wl_nil ?_
              exact qs_mid (.cons rfl (.cons rfl (.cons rfl (.cons rfl (.cons rfl (.cons rfl .nil)))))) ⟨_, rfl, hS22.pick [3, 1, 6, 7] rfl, ⟨(fun e => by cases e), fun q => absurd ((names_iff hn1 hn2).2 q.names) (of_decide_eq_false (by assumption))⟩⟩
          · skip
            refine wl_unwanted rfl rfl h19 rfl ?_
            refine wl_unwanted rfl rfl h19 rfl ?_
            refine wl_unwanted rfl rfl h19 rfl ?_
            refine wl_unwanted rfl rfl h19 rfl ?_
            refine wl_unwanted rfl rfl h19 rfl ?_
            refine wl_pickF rfl h19 rfl rfl ?_
            refine wl_move rfl rfl ?_
            refine wl_unwanted rfl rfl rfl rfl ?_
            refine wl_unwanted rfl rfl rfl rfl ?_
            refine wl_unwanted rfl rfl rfl rfl ?_
            refine wl_unwanted rfl rfl rfl rfl ?_
            refine wl_unwanted rfl rfl rfl rfl ?_
            refine wl_pickF rfl rfl rfl rfl ?_
            refine wl_assign rfl rfl ?_
            refine wl_nil ?_
            exact qs_mid (.cons rfl (.cons rfl (.cons rfl (.cons rfl (.cons rfl (.cons rfl .nil)))))) ⟨_, rfl, hS18.pick [3, 1, 4, 5] rfl, ⟨(fun e => by cases e), fun q => absurd ((keys_iff hk1 hk2).2 q.keys) (of_decide_eq_false (by assumption))⟩⟩
        rintro _ w15 ⟨s, rfl, hS15, hs0⟩
        refine wc_seq ?_
        refine wc_region ?_
        refine wl_move rfl rfl ?_
        have hC26 := hS15.split [0] [true, false, false, false] rfl; dsimp only [selF, pickA, nthA, List.cons_append, List.nil_append] at hC26
        refine wl_call cal_23 rfl (keys_sp hC26 [] hkw.1) rfl ?_
        rintro e w26 ⟨_, rfl, lk, hlk, hS26⟩; refine ⟨_, rfl, ?_⟩
        replace hS26 := hS26.join rfl; dsimp only [List.dropLast, List.cons_append, List.nil_append] at hS26; clear hC26
        clear hS15
        have hlkl := keysOf_len' hlk hkw.1
        refine wl_assign rfl rfl ?_
        refine wl_nil ?_
        refine qs_seq ?_
        refine wc_seq ?_
        refine wc_seq ?_
        refine wc_region ?_
        refine wl_assign rfl rfl ?_
        refine wl_nil ?_
        refine qs_seq ?_
        refine wc_block ?_
        refine wc_loop (fun K0 E0 W0 => ∃ (j : Nat) (s : Bool) (rv : Value), K0 = lk.length - j ∧ E0 = [(0, .slice ao l.length cap), (1, .slice am m.length capm), (5, .bool true), (6, ptrV p 0), (8, ptrV gq 0), (10, .bool s), (11, rv), (12, intV (j : Int))] ∧ Sat W0 [rowT stC rv lk, worldT p (playedW l), worldT gq (playF (playedW l) m), worldT hq (playedW l), F] ∧ (j ≤ lk.length) ∧ (s = true ↔ CloneEq (playedW l) (playF (playedW l) m) ∧ AllEq lk (fun k => (playedW l).cells k = (playF (playedW l) m).cells k) j)) (L0 := [(0, _), (1, _), (5, _), (6, _), (8, _), (10, _), (11, _), (12, _)]) (lk.length - 0) (.cons rfl (.cons rfl (.cons rfl (.cons rfl (.cons rfl (.cons rfl (.cons rfl (.cons rfl .nil)))))))) ⟨0, _, _, rfl, rfl, hS26.pick [0, 1, 2, 3, 4] rfl, by omega, by rw [hs0]; exact ⟨fun q => ⟨q, AllEq.zero _ _⟩, fun q => q.1⟩⟩ ?_
        rintro _ _ w27 ⟨j, s, rv, rfl, rfl, hS27, hj, hs⟩
        refine wc_seq ?_
        refine wc_seq ?_
        refine wc_region ?_
        refine wl_move rfl rfl ?_
        refine wl_move rfl rfl ?_
        first | refine wl_lenL Tryd.underlying40 rfl rfl ?_ | refine wl_lenO 0 hS27 Tryd.underlying40 rfl rfl rfl ?_
        refine wl_lss rfl rfl rfl ?_
        refine wl_nil ?_
        refine qs_seq ?_
        refine wc_sub (L' := [(101, _), (0, _), (1, _), (5, _), (6, _), (8, _), (10, _), (11, _), (12, _)]) (.cons rfl (.cons rfl (.cons rfl (.cons rfl (.cons rfl (.cons rfl (.cons rfl (.cons rfl (.cons rfl .nil))))))))) ?_
        refine wc_condD rfl (fun h28 => ?_) (fun h28 => ?_)
        · skip
          obtain ⟨x, hx⟩ : ∃ x, lk[j]? = some x := ⟨_, List.getElem?_eq_getElem (by omega)⟩
          obtain ⟨rb, rcap, rfl, _⟩ := hS27.own_at 0 rfl (by omega)
          refine wc_skip ?_
          refine qs_seq ?_
          refine wc_seq ?_
          refine wc_block ?_
          have hS29 := hS27.drew
          refine wc_draw [0, 1, 2, 3, 4, 5, 6, 8, 9, 10, 11, 12, 7, 13, 14, 15, 16] [7, 13] mix (by kernel_rfl) ?_
          refine vc_p rfl rfl rfl (fun _ => (ev_move rfl)) ?_
          refine vc_p rfl rfl rfl (fun _ => (ev_move rfl)) ?_
          refine vc_split 105 rfl (fun h30 => ?_) (fun h30 => ?_)
          · skip
            refine vc_p rfl rfl (guard_yes rfl rfl h30) (fun _ => (Ev.gd (ev_move rfl))) ?_
            refine vc_p rfl rfl (guard_yes rfl rfl h30) (fun _ => (Ev.gd (ev_move rfl))) ?_
            refine vc_p rfl rfl (guard_yes rfl rfl h30) (fun _ => (Ev.gd (ev_move rfl))) ?_
            refine vc_p rfl rfl (guard_yes rfl rfl h30) (fun _ => (Ev.gd (ev_indexAddr j rfl rfl (by first | rfl | omega) (by first | omega | exact (List.getElem?_eq_some_iff.1 hx).1) es_40))) ?_
            refine vc_q rfl rfl (guard_yes rfl rfl h30) (Ev.gd (ev_rowLoad0 stC 0 j 0 hS29 rfl hx ag_9 rfl rfl)) ?_
            refine vc_p rfl rfl (guard_yes rfl rfl h30) (fun _ => (Ev.gd (ev_move rfl))) ?_
            refine vc_p rfl rfl (guard_yes rfl rfl h30) (fun _ => (Ev.gd (ev_move rfl))) ?_
            refine vc_p rfl rfl (guard_yes rfl rfl h30) (fun _ => (Ev.gd (ev_move rfl))) ?_
            refine vc_p rfl rfl (guard_yes rfl rfl h30) (fun _ => (Ev.gd (ev_indexAddr j rfl rfl (by first | rfl | omega) (by first | omega | exact (List.getElem?_eq_some_iff.1 hx).1) es_40))) ?_
            refine vc_q rfl rfl (guard_yes rfl rfl h30) (Ev.gd (ev_rowLoad0 stC 0 j 0 hS29 rfl hx ag_9 rfl rfl)) ?_
            refine vc_s rfl rfl (guard_yes rfl rfl h30) rfl rfl rfl ?_
            have hC31 := hS29.split [1] [false, true, false, false, false] rfl; dsimp only [selF, pickA, nthA, List.cons_append, List.nil_append] at hC31
            refine wl_call cal_13 rfl (get_sp hC31 x) rfl ?_
            rintro e w31 ⟨_, rfl, rfl, hS31⟩; refine ⟨_, rfl, ?_⟩
            replace hS31 := hS31.join rfl; dsimp only [List.dropLast, List.cons_append, List.nil_append] at hS31; clear hC31
            clear hS29
            refine vc_e (.cons (.inl ⟨(guard_yes rfl rfl h30), (Ev.gd (ev_rowLoad0 stC 1 j 0 hS31 rfl hx ag_9 rfl rfl))⟩) (.skip (by kernel_rfl) .nil)) ?_
            refine vc_s rfl rfl (guard_yes rfl rfl h30) rfl rfl rfl ?_
            have hC32 := hS31.split [2] [false, false, true, false, false] rfl; dsimp only [selF, pickA, nthA, List.cons_append, List.nil_append] at hC32
            refine wl_call cal_13 rfl (get_sp hC32 x) rfl ?_
            rintro e w32 ⟨_, rfl, rfl, hS32⟩; refine ⟨_, rfl, ?_⟩
            replace hS32 := hS32.join rfl; dsimp only [List.dropLast, List.cons_append, List.nil_append] at hS32; clear hC32
            clear hS31
            refine vc_e (.skip (by kernel_rfl) (.skip (by kernel_rfl) .nil)) ?_
            refine vc_p rfl rfl (guard_yes rfl rfl h30) (fun _ => (Ev.gd (ev_eqlS rfl rfl))) ?_
            refine vc_p rfl rfl rfl (fun _ => (ev_pickT rfl h30 rfl)) ?_
            refine vc_p rfl rfl rfl (fun _ => (ev_assign rfl)) ?_
            refine VC.nil ?_
            refine qs_block_normal ?_
            refine qs_seq ?_
            refine wc_sub (L' := [(10, _), (0, _), (1, _), (5, _), (6, _), (8, _), (11, _), (12, _)]) (.cons rfl (.cons rfl (.cons rfl (.cons rfl (.cons rfl (.cons rfl (.cons rfl (.cons rfl .nil)))))))) ?_
            refine wc_region ?_
            refine wl_move rfl rfl ?_
            refine wl_add rfl rfl (by omega) (by omega) rfl ?_
            refine wl_assign rfl rfl ?_
            refine wl_nil ?_
            exact qs_round (L1 := [(0, _), (1, _), (5, _), (6, _), (8, _), (10, _), (11, _), (12, intV ((j + 1 : Nat) : Int))]) (.cons rfl (.cons rfl (.cons rfl (.cons rfl (.cons rfl (.cons rfl (.cons rfl (.cons rfl .nil)))))))) (k1 := lk.length - (j + 1)) (by omega) ⟨j + 1, _, _, rfl, rfl, hS32.pick [2, 1, 0, 3, 4] rfl, by omega, all_yes hs hx (by assumption)⟩
          · skip
            refine vc_not rfl rfl (guard_no rfl rfl h30) ?_
            refine vc_not rfl rfl (guard_no rfl rfl h30) ?_
            refine vc_not rfl rfl (guard_no rfl rfl h30) ?_
            refine vc_not rfl rfl (guard_no rfl rfl h30) ?_
            refine vc_not rfl rfl (guard_no rfl rfl h30) ?_
            refine vc_not rfl rfl (guard_no rfl rfl h30) ?_
            refine vc_not rfl rfl (guard_no rfl rfl h30) ?_
            refine vc_not rfl rfl (guard_no rfl rfl h30) ?_
            refine vc_not rfl rfl (guard_no rfl rfl h30) ?_
            refine vc_not rfl rfl (guard_no rfl rfl h30) ?_
            refine VC.spineNot rfl rfl (guard_no rfl rfl h30) ?_
            refine VC.spineNot rfl rfl (guard_no rfl rfl h30) ?_
            refine vc_not rfl rfl (guard_no rfl rfl h30) ?_
            refine vc_p rfl rfl rfl (fun _ => (ev_pickF rfl h30 rfl)) ?_
            refine vc_p rfl rfl rfl (fun _ => (ev_assign rfl)) ?_
            refine VC.nil ?_
            refine qs_block_normal ?_
            refine qs_seq ?_
            refine wc_sub (L' := [(10, _), (0, _), (1, _), (5, _), (6, _), (8, _), (11, _), (12, _)]) (.cons rfl (.cons rfl (.cons rfl (.cons rfl (.cons rfl (.cons rfl (.cons rfl (.cons rfl .nil)))))))) ?_
            refine wc_region ?_
            refine wl_move rfl rfl ?_
            refine wl_add rfl rfl (by omega) (by omega) rfl ?_
            refine wl_assign rfl rfl ?_
            refine wl_nil ?_
            exact qs_round (L1 := [(0, _), (1, _), (5, _), (6, _), (8, _), (10, _), (11, _), (12, intV ((j + 1 : Nat) : Int))]) (.cons rfl (.cons rfl (.cons rfl (.cons rfl (.cons rfl (.cons rfl (.cons rfl (.cons rfl .nil)))))))) (k1 := lk.length - (j + 1)) (by omega) ⟨j + 1, _, _, rfl, rfl, hS29.pick [0, 1, 2, 3, 4] rfl, by omega, all_no hs (by assumption)⟩
        · skip
          refine wc_exit ?_
          refine qs_then_exit ?_
          refine qs_then_exit ?_
          refine qs_block_exit ?_
          refine qs_seq ?_
          refine wc_seq ?_
          have hs1 := all_end hs (by omega)
          refine wc_region ?_
          refine wl_move rfl rfl ?_
          have hC33 := hS27.split [1] [false, true, false, false, false] rfl; dsimp only [selF, pickA, nthA, List.cons_append, List.nil_append] at hC33
          refine wl_call cal_24 rfl (objects_sp hC33 hkw.2) rfl ?_
          rintro e w33 ⟨_, rfl, ln, hln, hS33⟩; refine ⟨_, rfl, ?_⟩
          replace hS33 := hS33.join rfl; dsimp only [List.dropLast, List.cons_append, List.nil_append] at hS33; clear hC33
          clear hS27
          have hlnl := namesOf_len hln hkw.2
          refine wl_assign rfl rfl ?_
          refine wl_nil ?_
          refine qs_seq ?_
          refine wc_sub (L' := [(13, _), (0, _), (1, _), (5, _), (6, _), (8, _), (10, _)]) (.cons rfl (.cons rfl (.cons rfl (.cons rfl (.cons rfl (.cons rfl (.cons rfl .nil))))))) ?_
          refine wc_seq ?_
          refine wc_seq ?_
          refine wc_region ?_
          refine wl_assign rfl rfl ?_
          refine wl_nil ?_
          refine qs_seq ?_
          refine wc_block ?_
          refine wc_loop (fun K0 E0 W0 => ∃ (j : Nat) (s : Bool) (rv : Value), K0 = ln.length - j ∧ E0 = [(0, .slice ao l.length cap), (1, .slice am m.length capm), (5, .bool true), (6, ptrV p 0), (8, ptrV gq 0), (10, .bool s), (13, rv), (14, intV (j : Int))] ∧ Sat W0 [rowT stC rv ln, worldT p (playedW l), worldT gq (playF (playedW l) m), worldT hq (playedW l), F] ∧ (j ≤ ln.length) ∧ (s = true ↔ (CloneEq (playedW l) (playF (playedW l) m) ∧ ∀ k ∈ lk, (playedW l).cells k = (playF (playedW l) m).cells k) ∧ AllEq ln (fun k => objB (playedW l) k = objB (playF (playedW l) m) k) j)) (L0 := [(0, _), (1, _), (5, _), (6, _), (8, _), (10, _), (13, _), (14, _)]) (ln.length - 0) (.cons rfl (.cons rfl (.cons rfl (.cons rfl (.cons rfl (.cons rfl (.cons rfl (.cons rfl .nil)))))))) ⟨0, _, _, rfl, rfl, hS33.pick [0, 1, 3, 4, 5] rfl, by omega, by rw [hs1]; exact ⟨fun q => ⟨q, AllEq.zero _ _⟩, fun q => q.1⟩⟩ ?_
          rintro _ _ w34 ⟨j, s, rv, rfl, rfl, hS34, hj, hs⟩
          refine wc_seq ?_
          refine wc_seq ?_
          refine wc_region ?_
          refine wl_move rfl rfl ?_
          refine wl_move rfl rfl ?_
          first | refine wl_lenL Tryd.underlying40 rfl rfl ?_ | refine wl_lenO 0 hS34 Tryd.underlying40 rfl rfl rfl ?_
          refine wl_lss rfl rfl rfl ?_
          refine wl_nil ?_
          refine qs_seq ?_
          refine wc_sub (L' := [(125, _), (0, _), (1, _), (5, _), (6, _), (8, _), (10, _), (13, _), (14, _)]) (.cons rfl (.cons rfl (.cons rfl (.cons rfl (.cons rfl (.cons rfl (.cons rfl (.cons rfl (.cons rfl .nil))))))))) ?_
          refine wc_condD rfl (fun h35 => ?_) (fun h35 => ?_)
          · skip
            obtain ⟨x, hx⟩ : ∃ x, ln[j]? = some x := ⟨_, List.getElem?_eq_getElem (by omega)⟩
            obtain ⟨rb, rcap, rfl, _⟩ := hS34.own_at 0 rfl (by omega)
            refine wc_skip ?_
            refine qs_seq ?_
            refine wc_seq ?_
            refine wc_block ?_
            have hS36 := hS34.drew
            refine wc_draw [0, 1, 2, 3, 4, 5, 6, 8, 9, 10, 11, 12, 7, 13, 14, 15, 16] [7, 13] mix (by kernel_rfl) ?_
            refine vc_p rfl rfl rfl (fun _ => (ev_move rfl)) ?_
            refine vc_p rfl rfl rfl (fun _ => (ev_move rfl)) ?_
            refine vc_split 129 rfl (fun h37 => ?_) (fun h37 => ?_)
            · skip
              refine vc_p rfl rfl (guard_yes rfl rfl h37) (fun _ => (Ev.gd (ev_move rfl))) ?_
              refine vc_p rfl rfl (guard_yes rfl rfl h37) (fun _ => (Ev.gd (ev_move rfl))) ?_
              refine vc_p rfl rfl (guard_yes rfl rfl h37) (fun _ => (Ev.gd (ev_move rfl))) ?_
              refine vc_p rfl rfl (guard_yes rfl rfl h37) (fun _ => (Ev.gd (ev_indexAddr j rfl rfl (by first | rfl | omega) (by first | omega | exact (List.getElem?_eq_some_iff.1 hx).1) es_40))) ?_
              refine vc_q rfl rfl (guard_yes rfl rfl h37) (Ev.gd (ev_rowLoad0 stC 0 j 0 hS36 rfl hx ag_9 rfl rfl)) ?_
              refine vc_p rfl rfl (guard_yes rfl rfl h37) (fun _ => (Ev.gd (ev_move rfl))) ?_
              refine vc_p rfl rfl (guard_yes rfl rfl h37) (fun _ => (Ev.gd (ev_move rfl))) ?_
              refine vc_p rfl rfl (guard_yes rfl rfl h37) (fun _ => (Ev.gd (ev_move rfl))) ?_
              refine vc_p rfl rfl (guard_yes rfl rfl h37) (fun _ => (Ev.gd (ev_indexAddr j rfl rfl (by first | rfl | omega) (by first | omega | exact (List.getElem?_eq_some_iff.1 hx).1) es_40))) ?_
              refine vc_q rfl rfl (guard_yes rfl rfl h37) (Ev.gd (ev_rowLoad0 stC 0 j 0 hS36 rfl hx ag_9 rfl rfl)) ?_
              refine vc_s rfl rfl (guard_yes rfl rfl h37) rfl rfl rfl ?_
              have hC38 := hS36.split [1] [false, true, false, false, false] rfl; dsimp only [selF, pickA, nthA, List.cons_append, List.nil_append] at hC38
              refine wl_call cal_16 rfl (object_sp hC38 x) rfl ?_
              rintro e w38 ⟨_, rfl, rfl, hS38⟩; refine ⟨_, rfl, ?_⟩
              replace hS38 := hS38.join rfl; dsimp only [List.dropLast, List.cons_append, List.nil_append] at hS38; clear hC38
              clear hS36
              refine vc_e (.cons (.inl ⟨(guard_yes rfl rfl h37), (Ev.gd (ev_rowLoad0 stC 1 j 0 hS38 rfl hx ag_9 rfl rfl))⟩) (.skip (by kernel_rfl) .nil)) ?_
              refine vc_s rfl rfl (guard_yes rfl rfl h37) rfl rfl rfl ?_
              have hC39 := hS38.split [2] [false, false, true, false, false] rfl; dsimp only [selF, pickA, nthA, List.cons_append, List.nil_append] at hC39
              refine wl_call cal_16 rfl (object_sp hC39 x) rfl ?_
              rintro e w39 ⟨_, rfl, rfl, hS39⟩; refine ⟨_, rfl, ?_⟩
              replace hS39 := hS39.join rfl; dsimp only [List.dropLast, List.cons_append, List.nil_append] at hS39; clear hC39
              clear hS38
              refine vc_e (.skip (by kernel_rfl) (.skip (by kernel_rfl) .nil)) ?_
              refine vc_p rfl rfl (guard_yes rfl rfl h37) (fun _ => (Ev.gd (ev_eqlS rfl rfl))) ?_
              refine vc_p rfl rfl rfl (fun _ => (ev_pickT rfl h37 rfl)) ?_
              refine vc_p rfl rfl rfl (fun _ => (ev_assign rfl)) ?_
              refine VC.nil ?_
              refine qs_block_normal ?_
              refine qs_seq ?_
              refine wc_sub (L' := [(10, _), (0, _), (1, _), (5, _), (6, _), (8, _), (13, _), (14, _)]) (.cons rfl (.cons rfl (.cons rfl (.cons rfl (.cons rfl (.cons rfl (.cons rfl (.cons rfl .nil)))))))) ?_
              refine wc_region ?_
              refine wl_move rfl rfl ?_
              refine wl_add rfl rfl (by omega) (by omega) rfl ?_
              refine wl_assign rfl rfl ?_
              refine wl_nil ?_
              exact qs_round (L1 := [(0, _), (1, _), (5, _), (6, _), (8, _), (10, _), (13, _), (14, intV ((j + 1 : Nat) : Int))]) (.cons rfl (.cons rfl (.cons rfl (.cons rfl (.cons rfl (.cons rfl (.cons rfl (.cons rfl .nil)))))))) (k1 := ln.length - (j + 1)) (by omega) ⟨j + 1, _, _, rfl, rfl, hS39.pick [2, 1, 0, 3, 4] rfl, by omega, all_yes hs hx (by assumption)⟩
            · skip
              refine vc_not rfl rfl (guard_no rfl rfl h37) ?_
              refine vc_not rfl rfl (guard_no rfl rfl h37) ?_
              refine vc_not rfl rfl (guard_no rfl rfl h37) ?_
              refine vc_not rfl rfl (guard_no rfl rfl h37) ?_
              refine vc_not rfl rfl (guard_no rfl rfl h37) ?_
              refine vc_not rfl rfl (guard_no rfl rfl h37) ?_
              refine vc_not rfl rfl (guard_no rfl rfl h37) ?_
              refine vc_not rfl rfl (guard_no rfl rfl h37) ?_
              refine vc_not rfl rfl (guard_no rfl rfl h37) ?_
              refine vc_not rfl rfl (guard_no rfl rfl h37) ?_
              refine VC.spineNot rfl rfl (guard_no rfl rfl h37) ?_
              refine VC.spineNot rfl rfl (guard_no rfl rfl h37) ?_
              refine vc_not rfl rfl (guard_no rfl rfl h37) ?_
              refine vc_p rfl rfl rfl (fun _ => (ev_pickF rfl h37 rfl)) ?_
              refine vc_p rfl rfl rfl (fun _ => (ev_assign rfl)) ?_
              refine VC.nil ?_
              refine qs_block_normal ?_
              refine qs_seq ?_
              refine wc_sub (L' := [(10, _), (0, _), (1, _), (5, _), (6, _), (8, _), (13, _), (14, _)]) (.cons rfl (.cons rfl (.cons rfl (.cons rfl (.cons rfl (.cons rfl (.cons rfl (.cons rfl .nil)))))))) ?_
              refine wc_region ?_
              refine wl_move rfl rfl ?_
              refine wl_add rfl rfl (by omega) (by omega) rfl ?_
              refine wl_assign rfl rfl ?_
              refine wl_nil ?_
              exact qs_round (L1 := [(0, _), (1, _), (5, _), (6, _), (8, _), (10, _), (13, _), (14, intV ((j + 1 : Nat) : Int))]) (.cons rfl (.cons rfl (.cons rfl (.cons rfl (.cons rfl (.cons rfl (.cons rfl (.cons rfl .nil)))))))) (k1 := ln.length - (j + 1)) (by omega) ⟨j + 1, _, _, rfl, rfl, hS36.pick [0, 1, 2, 3, 4] rfl, by omega, all_no hs (by assumption)⟩
          · skip
            refine wc_exit ?_
            refine qs_then_exit ?_
            refine qs_then_exit ?_
            refine qs_block_exit ?_
            refine qs_seq ?_
            refine wc_seq ?_
            have hs2 := all_end hs (by omega)
            refine wc_region ?_
            refine wl_rowBuild opC [] hS34 rfl Tryd.underlying22 ifz_24 rfl rfl rfl rfl (by first | rfl | simp [RowC.cells, fillL, splice]) rfl ?_
            intro b40 w40 hS40
            clear hS34
            refine wl_move rfl rfl ?_
            refine wl_rowApp opC 0 hS40 rfl rfl rfl (hL.sat hS40 5 rfl) Tryd.underlying22 Tryd.underlying22 (by intro k hk; cases hk) ifo_24 rfl (by simp; omega) rfl (by simp; omega) ?_
            intro v41 w41 hS41; dsimp only [List.set] at hS41
            clear hS40
            have h1v41 : v41.oneCell' = true := hS41.own_one 0 rfl
            refine wl_move rfl rfl ?_
            refine wl_rowApp opC 0 hS41 rfl rfl rfl (hM.sat hS41 5 rfl) Tryd.underlying22 Tryd.underlying22 (by intro k hk; cases hk) ifo_24 rfl (by simp; omega) rfl (by simp; omega) ?_
            intro v42 w42 hS42; dsimp only [List.set] at hS42
            clear hS41
            have h1v42 : v42.oneCell' = true := hS42.own_one 0 rfl
            refine wl_assign rfl rfl ?_
            refine wl_nil ?_
            refine qs_seq ?_
            refine wc_sub (L' := [(15, _), (5, _), (6, _), (8, _), (10, _)]) (.cons rfl (.cons rfl (.cons rfl (.cons rfl (.cons rfl .nil))))) ?_
            refine wc_seq ?_
            refine wc_seq ?_
            refine wc_region ?_
            refine wl_assign rfl rfl ?_
            refine wl_nil ?_
            refine qs_seq ?_
            refine wc_block ?_
            refine wc_loop (fun K0 E0 W0 => ∃ (j : Nat) (s : Bool) (rv : Value), K0 = (l ++ m).length - j ∧ E0 = [(5, .bool true), (6, ptrV p 0), (8, ptrV gq 0), (10, .bool s), (15, rv), (16, intV (j : Int))] ∧ Sat W0 [rowT opC rv (l ++ m), worldT p (playedW l), worldT gq (playF (playedW l) m), worldT hq (playedW l), F] ∧ (j ≤ (l ++ m).length) ∧ (s = true ↔ ((CloneEq (playedW l) (playF (playedW l) m) ∧ ∀ k ∈ lk, (playedW l).cells k = (playF (playedW l) m).cells k) ∧ ∀ k ∈ ln, objB (playedW l) k = objB (playF (playedW l) m) k) ∧ AllEq (l ++ m) (fun (o : OpD) => (playedW l).logs o.a = (playF (playedW l) m).logs o.a) j)) (L0 := [(5, _), (6, _), (8, _), (10, _), (15, _), (16, _)]) ((l ++ m).length - 0) (.cons rfl (.cons rfl (.cons rfl (.cons rfl (.cons rfl (.cons rfl .nil)))))) ⟨0, _, _, rfl, rfl, hS42.pick [0, 2, 3, 4, 5] rfl, by omega, by rw [hs2]; exact ⟨fun q => ⟨q, AllEq.zero _ _⟩, fun q => q.1⟩⟩ ?_
            rintro _ _ w43 ⟨j, s, rv, rfl, rfl, hS43, hj, hs⟩
            refine wc_seq ?_
            refine wc_seq ?_
            refine wc_region ?_
            refine wl_move rfl rfl ?_
            refine wl_move rfl rfl ?_
            first | refine wl_lenL Tryd.underlying22 rfl rfl ?_ | refine wl_lenO 0 hS43 Tryd.underlying22 rfl rfl rfl ?_
            refine wl_lss rfl rfl rfl ?_
            refine wl_nil ?_
            refine qs_seq ?_
            refine wc_condD rfl (fun h44 => ?_) (fun h44 => ?_)
            · skip
              obtain ⟨x, hx⟩ : ∃ x, (l ++ m)[j]? = some x := ⟨_, List.getElem?_eq_getElem (by omega)⟩
              obtain ⟨rb, rcap, rfl, _⟩ := hS43.own_at 0 rfl (by omega)
              have hlml : (l ++ m).length = l.length + m.length := List.length_append
              refine wc_skip ?_
              refine qs_seq ?_
              refine wc_seq ?_
              refine wc_block ?_
              have hS45 := hS43.drew
              refine wc_draw [0, 1, 2, 3, 4, 5, 6, 7, 9, 10, 11, 12, 13, 14, 8, 15, 16, 17, 18] [8, 15] mix (by kernel_rfl) ?_
              refine vc_p rfl rfl rfl (fun _ => (ev_move rfl)) ?_
              refine vc_p rfl rfl rfl (fun _ => (ev_move rfl)) ?_
              refine vc_split 156 rfl (fun h46 => ?_) (fun h46 => ?_)
              · skip
                refine vc_p rfl rfl (guard_yes rfl rfl h46) (fun _ => (Ev.gd (ev_move rfl))) ?_
                refine vc_p rfl rfl (guard_yes rfl rfl h46) (fun _ => (Ev.gd (ev_move rfl))) ?_
                refine vc_p rfl rfl (guard_yes rfl rfl h46) (fun _ => (Ev.gd (ev_move rfl))) ?_
                refine vc_p rfl rfl (guard_yes rfl rfl h46) (fun _ => (Ev.gd (ev_indexAddr j rfl rfl (by first | rfl | omega) (by first | omega | exact (List.getElem?_eq_some_iff.1 hx).1) es_22))) ?_
                refine vc_p rfl rfl (guard_yes rfl rfl h46) (fun _ => (Ev.gd (ev_fieldAddr rfl fo_24_1))) ?_
                refine vc_q rfl rfl (guard_yes rfl rfl h46) (Ev.gd (ev_rowLoad0 opC 0 j 1 hS45 rfl hx ag_9 rfl rfl)) ?_
                refine vc_p rfl rfl (guard_yes rfl rfl h46) (fun _ => (Ev.gd (ev_move rfl))) ?_
                refine vc_p rfl rfl (guard_yes rfl rfl h46) (fun _ => (Ev.gd (ev_move rfl))) ?_
                refine vc_p rfl rfl (guard_yes rfl rfl h46) (fun _ => (Ev.gd (ev_move rfl))) ?_
                refine vc_p rfl rfl (guard_yes rfl rfl h46) (fun _ => (Ev.gd (ev_indexAddr j rfl rfl (by first | rfl | omega) (by first | omega | exact (List.getElem?_eq_some_iff.1 hx).1) es_22))) ?_
                refine vc_p rfl rfl (guard_yes rfl rfl h46) (fun _ => (Ev.gd (ev_fieldAddr rfl fo_24_1))) ?_
                refine vc_q rfl rfl (guard_yes rfl rfl h46) (Ev.gd (ev_rowLoad0 opC 0 j 1 hS45 rfl hx ag_9 rfl rfl)) ?_
                refine vc_s rfl rfl (guard_yes rfl rfl h46) rfl rfl rfl ?_
                have hC47 := hS45.split [1] [false, true, false, false, false] rfl; dsimp only [selF, pickA, nthA, List.cons_append, List.nil_append] at hC47
                refine wl_call cal_15 rfl (logs_sp hC47 x.a) rfl ?_
                rintro e w47 ⟨_, rfl, rfl, hS47⟩; refine ⟨_, rfl, ?_⟩
                replace hS47 := hS47.join rfl; dsimp only [List.dropLast, List.cons_append, List.nil_append] at hS47; clear hC47
                clear hS45
                refine vc_e (.cons (.inl ⟨(guard_yes rfl rfl h46), (Ev.gd (ev_rowLoad0 opC 1 j 1 hS47 rfl hx ag_9 rfl rfl))⟩) (.skip (by kernel_rfl) .nil)) ?_
                refine vc_s rfl rfl (guard_yes rfl rfl h46) rfl rfl rfl ?_
                have hC48 := hS47.split [2] [false, false, true, false, false] rfl; dsimp only [selF, pickA, nthA, List.cons_append, List.nil_append] at hC48
                refine wl_call cal_15 rfl (logs_sp hC48 x.a) rfl ?_
                rintro e w48 ⟨_, rfl, rfl, hS48⟩; refine ⟨_, rfl, ?_⟩
                replace hS48 := hS48.join rfl; dsimp only [List.dropLast, List.cons_append, List.nil_append] at hS48; clear hC48
                clear hS47
                refine vc_e (.skip (by kernel_rfl) (.skip (by kernel_rfl) .nil)) ?_
                refine vc_p rfl rfl (guard_yes rfl rfl h46) (fun _ => (Ev.gd (ev_eqlS rfl rfl))) ?_
                refine vc_p rfl rfl rfl (fun _ => (ev_pickT rfl h46 rfl)) ?_
                refine vc_p rfl rfl rfl (fun _ => (ev_assign rfl)) ?_
                refine VC.nil ?_
                refine qs_block_normal ?_
                refine qs_seq ?_
                refine wc_sub (L' := [(10, _), (5, _), (6, _), (8, _), (15, _), (16, _)]) (.cons rfl (.cons rfl (.cons rfl (.cons rfl (.cons rfl (.cons rfl .nil)))))) ?_
                refine wc_region ?_
                refine wl_move rfl rfl ?_
                refine wl_add rfl rfl (by omega) (by omega) rfl ?_
                refine wl_assign rfl rfl ?_
                refine wl_nil ?_
                exact qs_round (L1 := [(5, _), (6, _), (8, _), (10, _), (15, _), (16, intV ((j + 1 : Nat) : Int))]) (.cons rfl (.cons rfl (.cons rfl (.cons rfl (.cons rfl (.cons rfl .nil)))))) (k1 := (l ++ m).length - (j + 1)) (by omega) ⟨j + 1, _, _, rfl, rfl, hS48.pick [2, 1, 0, 3, 4] rfl, by omega, all_yes hs hx (by assumption)⟩
              · skip
                refine vc_not rfl rfl (guard_no rfl rfl h46) ?_
                refine vc_not rfl rfl (guard_no rfl rfl h46) ?_
                refine vc_not rfl rfl (guard_no rfl rfl h46) ?_
                refine vc_not rfl rfl (guard_no rfl rfl h46) ?_
                refine vc_not rfl rfl (guard_no rfl rfl h46) ?_
                refine vc_not rfl rfl (guard_no rfl rfl h46) ?_
                refine vc_not rfl rfl (guard_no rfl rfl h46) ?_
                refine vc_not rfl rfl (guard_no rfl rfl h46) ?_
                refine vc_not rfl rfl (guard_no rfl rfl h46) ?_
                refine vc_not rfl rfl (guard_no rfl rfl h46) ?_
                refine vc_not rfl rfl (guard_no rfl rfl h46) ?_
                refine vc_not rfl rfl (guard_no rfl rfl h46) ?_
                refine VC.spineNot rfl rfl (guard_no rfl rfl h46) ?_
                refine VC.spineNot rfl rfl (guard_no rfl rfl h46) ?_
                refine vc_not rfl rfl (guard_no rfl rfl h46) ?_
                refine vc_p rfl rfl rfl (fun _ => (ev_pickF rfl h46 rfl)) ?_
                refine vc_p rfl rfl rfl (fun _ => (ev_assign rfl)) ?_
                refine VC.nil ?_
                refine qs_block_normal ?_
                refine qs_seq ?_
                refine wc_sub (L' := [(10, _), (5, _), (6, _), (8, _), (15, _), (16, _)]) (.cons rfl (.cons rfl (.cons rfl (.cons rfl (.cons rfl (.cons rfl .nil)))))) ?_
                refine wc_region ?_
                refine wl_move rfl rfl ?_
                refine wl_add rfl rfl (by omega) (by omega) rfl ?_
                refine wl_assign rfl rfl ?_
                refine wl_nil ?_
                exact qs_round (L1 := [(5, _), (6, _), (8, _), (10, _), (15, _), (16, intV ((j + 1 : Nat) : Int))]) (.cons rfl (.cons rfl (.cons rfl (.cons rfl (.cons rfl (.cons rfl .nil)))))) (k1 := (l ++ m).length - (j + 1)) (by omega) ⟨j + 1, _, _, rfl, rfl, hS45.pick [0, 1, 2, 3, 4] rfl, by omega, all_no hs (by assumption)⟩
            · skip
              refine wc_exit ?_
              refine qs_then_exit ?_
              refine qs_then_exit ?_
              refine qs_block_exit ?_
              refine qs_seq ?_
              refine wc_seq ?_
              have hs3 := all_end hs (by omega)
              refine wc_region ?_
              refine wl_move rfl rfl ?_
              refine wl_move rfl rfl ?_
              refine wl_guard rfl rfl rfl ?_
              refine wl_move rfl rfl ?_
              refine wl_guard rfl rfl rfl ?_
              refine wl_move rfl rfl ?_
              refine wl_guard rfl rfl rfl ?_
              have hC49 := hS43.split [1, 2] [false, true, true, false, false] rfl; dsimp only [selF, pickA, nthA, List.cons_append, List.nil_append] at hC49
              refine wl_call cal_21 rfl (same_w hC49) rfl ?_
              rintro e w49 ⟨_, rfl, g4, rfl, hg4, hS49⟩; refine ⟨_, rfl, ?_⟩
              replace hS49 := hS49.join rfl; dsimp only [List.dropLast, List.cons_append, List.nil_append] at hS49; clear hC49
              clear hS43
              refine wl_guard rfl rfl rfl ?_
              refine wl_move rfl rfl ?_
              refine wl_guard rfl rfl rfl ?_
              refine wl_eqlB Tryd.underlying4 rfl rfl rfl ?_
              refine wl_pickT rfl rfl rfl rfl ?_
              refine wl_assign rfl rfl ?_
              refine wl_nil ?_
              refine qs_seq ?_
              refine wc_sub (L' := [(4, _)]) (.cons rfl .nil) ?_
              refine wc_ret ?_
              refine fin1 (.inr rfl) rfl rfl ?_
              exact ⟨_, rfl, by congr 1; rw [beq_iff_eq]; exact Bool.eq_iff_iff.2 (hg4.trans ((clone_iff hI hI2 hlk hln).symm.trans hs3.symm)), hS49.pick [4] rfl⟩

end Go.Proofs.YtieelilkkpcmdaaDoor
