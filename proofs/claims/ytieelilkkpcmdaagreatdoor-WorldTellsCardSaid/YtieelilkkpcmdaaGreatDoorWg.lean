/- laws of world: SameTexts, small -/
import Derived.Test.YtieelilkkpcmdaaGreatDoorWf
namespace Go.Proofs.YtieelilkkpcmdaaGreatDoor
open Go.RowKit M
set_option linter.unusedVariables false
theorem same_end {l1 l2 : List Bs} {i : Nat} (h : ∀ j, j < i → l1[j]? = l2[j]?) (h1 : i = l1.length) (h2 : l1.length = l2.length) : l1 = l2 := by
  apply List.ext_getElem?
  intro j
  by_cases hj : j < i
  · exact h j hj
  · rw [List.getElem?_eq_none (by omega), List.getElem?_eq_none (by omega)]
set_option maxRecDepth 100000 in
theorem same_sp {w : World} {F : Th} (hS : Sat w [F]) {v1 v2 : Value} {l1 l2 : List Bs} (hA : Ent F (RdL stC v1 l1)) (hB : Ent F (RdL stC v2 l2)) :
    Calls Tryz.prog 18 #[v1, v2] w (Ret fun v w' => v = .bool (decide (l1 = l2)) ∧ Sat w' [F]) := by
  obtain ⟨ao1, cap1, rfl, hm1⟩ := (hA.sat hS 0 rfl).shape
  obtain ⟨ao2, cap2, rfl, hm2⟩ := (hB.sat hS 0 rfl).shape
  refine calls_enter Tryz.func18 rfl Tryz.ntmps18 rfl ?_
  refine wc_seq ?_
  refine wc_region ?_
  refine wl_assign rfl rfl ?_
  refine wl_nil ?_
  refine qs_seq ?_
  refine wc_seq ?_
  refine wc_seq ?_
  refine wc_region ?_
  refine wl_move rfl rfl ?_
  refine wl_lenL Tryz.underlying28 rfl rfl ?_
  refine wl_move rfl rfl ?_
  refine wl_lenL Tryz.underlying28 rfl rfl ?_
  refine wl_neq rfl rfl rfl ?_
  refine wl_nil ?_
  refine qs_seq ?_
  refine wc_condD rfl (fun h1 => ?_) (fun h1 => ?_)
  · skip
    refine wc_seq ?_
    refine wc_region ?_
    refine wl_assign rfl rfl ?_
    refine wl_nil ?_
    refine qs_seq ?_
    refine wc_ret ?_
    refine qs_then_ret ?_
    refine fin1 (.inr rfl) rfl rfl ?_
    exact ⟨_, rfl, by rw [decide_eq_false (by rintro rfl; omega)], hS⟩
  · skip
    refine wc_skip ?_
    refine qs_seq ?_
    refine wc_seq ?_
    refine wc_seq ?_
    refine wc_region ?_
    refine wl_assign rfl rfl ?_
    refine wl_nil ?_
    refine qs_seq ?_
    refine wc_block ?_
    refine wc_loop (fun K0 E0 W0 => ∃ (i : Nat), K0 = l1.length - i ∧ E0 = [(0, .slice ao1 l1.length cap1), (1, .slice ao2 l2.length cap2), (5, intV (i : Int))] ∧ Sat W0 [F] ∧ (i ≤ l1.length) ∧ (∀ j, j < i → l1[j]? = l2[j]?)) (L0 := [(0, _), (1, _), (5, _)]) (l1.length - 0) (.cons rfl (.cons rfl (.cons rfl .nil))) ⟨0, rfl, rfl, hS, by omega, by omega⟩ ?_
    rintro _ _ w2 ⟨i, rfl, rfl, hS2, hi, hok⟩
    refine wc_seq ?_
    refine wc_seq ?_
    refine wc_region ?_
    refine wl_move rfl rfl ?_
    refine wl_move rfl rfl ?_
    refine wl_lenL Tryz.underlying28 rfl rfl ?_
    refine wl_lss rfl rfl rfl ?_
    refine wl_nil ?_
    refine qs_seq ?_
    refine wc_condD rfl (fun h3 => ?_) (fun h3 => ?_)
    · skip
      obtain ⟨s1, ha⟩ : ∃ s, l1[i]? = some s := ⟨_, List.getElem?_eq_getElem (by omega)⟩
      obtain ⟨s2, hb⟩ : ∃ s, l2[i]? = some s := ⟨_, List.getElem?_eq_getElem (by omega)⟩
      obtain ⟨b1, off1, rfl, hc1⟩ := (hA.sat hS2 0 rfl).get ha
      obtain ⟨b2, off2, rfl, hc2⟩ := (hB.sat hS2 0 rfl).get hb
      refine wc_skip ?_
      refine qs_seq ?_
      refine wc_seq ?_
      refine wc_block ?_
      refine wc_seq ?_
      have hS4 := hS2.drew
      refine wc_draw [0, 1, 2, 3, 4, 5, 6, 7, 8] [] mix (by kernel_rfl) ?_
      refine vc_p rfl rfl rfl (fun _ => (ev_move rfl)) ?_
      refine vc_p rfl rfl rfl (fun _ => (ev_move rfl)) ?_
      refine vc_p rfl rfl rfl (fun _ => (ev_indexAddr i rfl rfl (by first | rfl | omega) (by exact (List.getElem?_eq_some_iff.1 ha).1) es_28)) ?_
      refine vc_q rfl rfl rfl (ev_load rfl ag_9 (by have h := hc1 0 _ rfl; exact h)) ?_
      refine vc_p rfl rfl rfl (fun _ => (ev_move rfl)) ?_
      refine vc_p rfl rfl rfl (fun _ => (ev_move rfl)) ?_
      refine vc_p rfl rfl rfl (fun _ => (ev_indexAddr i rfl rfl (by first | rfl | omega) (by exact (List.getElem?_eq_some_iff.1 hb).1) es_28)) ?_
      refine vc_q rfl rfl rfl (ev_load rfl ag_9 (by have h := hc2 0 _ rfl; exact h)) ?_
      refine vc_p rfl rfl rfl (fun _ => (ev_neqS rfl rfl)) ?_
      refine VC.nil ?_
      refine qs_seq ?_
      refine wc_sub (L' := [(25, _), (0, _), (1, _), (5, _)]) (.cons rfl (.cons rfl (.cons rfl (.cons rfl .nil)))) ?_
      refine wc_condD rfl (fun h5 => ?_) (fun h5 => ?_)
      · skip
        have hne : s1 ≠ s2 := h5
        refine wc_seq ?_
        refine wc_region ?_
        refine wl_assign rfl rfl ?_
        refine wl_nil ?_
        refine qs_seq ?_
        refine wc_ret ?_
        refine qs_block_ret ?_
        refine qs_then_ret ?_
        refine qs_then_ret ?_
        refine qs_block_ret ?_
        refine qs_then_ret ?_
        refine fin1 (.inr rfl) rfl rfl ?_
        exact ⟨_, rfl, by rw [decide_eq_false (by rintro rfl; rw [ha] at hb; cases hb; exact hne rfl)], hS4⟩
      · skip
        have heq : s1 = s2 := Decidable.not_not.1 h5
        refine wc_skip ?_
        refine qs_block_normal ?_
        refine qs_seq ?_
        refine wc_region ?_
        refine wl_move rfl rfl ?_
        refine wl_add rfl rfl (by omega) (by omega) rfl ?_
        refine wl_assign rfl rfl ?_
        refine wl_nil ?_
        exact qs_round (L1 := [(0, _), (1, _), (5, intV ((i + 1 : Nat) : Int))]) (.cons rfl (.cons rfl (.cons rfl .nil))) (k1 := l1.length - (i + 1)) (by omega) ⟨i + 1, rfl, rfl, hS4, by omega, fun j hj => by by_cases e : j = i; (subst e; rw [ha, hb, heq]); exact hok j (by omega)⟩
    · skip
      refine wc_exit ?_
      refine qs_then_exit ?_
      refine qs_then_exit ?_
      refine qs_block_exit ?_
      refine qs_seq ?_
      refine wc_seq ?_
      refine wc_region ?_
      refine wl_assign rfl rfl ?_
      refine wl_nil ?_
      refine qs_seq ?_
      refine wc_ret ?_
      refine fin1 (.inr rfl) rfl rfl ?_
      exact ⟨_, rfl, by rw [decide_eq_true (same_end hok (by omega) (by omega))], hS2⟩

def smallW : WS := (copyS (setByteS (copyS (setByteS (putS (putS emptyW [97, 47, 49] [120]) [98] [121]) [111] 65 7) [111] 1 1 [112] 0) [113] 0 5) [113] 0 2 [113] 1)
theorem small_cells : smallW.cells = updC (updC (fun _ => []) [97, 47, 49] [120]) [98] [121] := rfl
theorem small_keys : KeysIn smallW.cells 1000000 := by
  rw [small_cells]
  refine ⟨⟨[[97, 47, 49], [98]], by simp, fun k hk => ?_⟩, fun k hk => ?_⟩
  · simp only [updC] at hk
    split at hk
    · rename_i e; simp [e]
    split at hk
    · rename_i e; simp [e]
    · exact absurd rfl hk
  · simp only [updC] at hk
    split at hk
    · rename_i e; simp [e]
    split at hk
    · rename_i e; simp [e]
    · exact absurd rfl hk
theorem small_list {l : List Bs} (h : KeysOf smallW.cells [97, 47] l) : l = [[97, 47, 49]] := by
  obtain ⟨l0, rfl, hn, hm⟩ := h
  have : l0 = [[97, 47, 49]] := by
    have h1 : [97, 47, 49] ∈ l0 := (hm _).2 ⟨by rw [small_cells]; decide, by decide⟩
    have h2 : ∀ k ∈ l0, k = [97, 47, 49] := fun k hk => by
      obtain ⟨hc, hp⟩ := (hm k).1 hk
      rw [small_cells] at hc
      simp only [updC] at hc
      split at hc
      · rename_i e; subst e; revert hp; decide
      split at hc
      · assumption
      · exact absurd rfl hc
    cases l0 with
    | nil => cases h1
    | cons a t =>
      have ha := h2 a (by simp)
      subst ha
      cases t with
      | nil => rfl
      | cons b t =>
        have hb := h2 b (by simp)
        subst hb
        simp at hn
  subst this; simp [sortS]
theorem small_b0 : byteW smallW [112] 1 = 7 := by decide +kernel
theorem small_b1 : byteW smallW [113] 64 = 5 := by decide +kernel
theorem small_b2 : byteW smallW [113] 128 = 0 := by decide +kernel
theorem small_get : smallW.cells [98] = [121] := by decide +kernel
set_option maxRecDepth 100000 in
theorem small_sp {w : World} {F : Th} (hS : Sat w [F]) :
    Calls Tryz.prog 5 #[] w (Ret fun v w' => v = .bool true ∧ Sat w' [F]) := by
  refine calls_enter Tryz.func5 rfl Tryz.ntmps5 rfl ?_
  refine wc_seq ?_
  refine wc_region ?_
  refine wl_assign rfl rfl ?_
  refine wl_nil ?_
  refine qs_seq ?_
  refine wc_seq ?_
  refine wc_region ?_
  have hC1 := hS.split [] [false] rfl; dsimp only [selF, pickA, nthA, List.cons_append, List.nil_append] at hC1
  refine wl_call cal_7 rfl (new_sp hC1) rfl ?_
  rintro e w1 ⟨_, rfl, p, rfl, hS1⟩; refine ⟨_, rfl, ?_⟩
  replace hS1 := hS1.join rfl; dsimp only [List.dropLast, List.cons_append, List.nil_append] at hS1; clear hC1
  refine wl_assign rfl rfl ?_
  refine wl_nil ?_
  refine qs_seq ?_
  refine wc_seq ?_
  refine wc_seq ?_
  refine wc_region ?_
  refine wl_move rfl rfl ?_
  refine wl_eqlNil Tryz.underlying25 rfl rfl rfl ?_
  refine wl_nil ?_
  refine qs_seq ?_
  refine wc_condF rfl ?_
  refine wc_skip ?_
  refine qs_seq ?_
  refine wc_seq ?_
  refine wc_region ?_
  refine wl_move rfl rfl ?_
  have hC2 := hS1.split [0] [true, false] rfl; dsimp only [selF, pickA, nthA, List.cons_append, List.nil_append] at hC2
  refine wl_call cal_28 rfl (put_sp hC2 [97, 47, 49] [120] (by simp) (by simp)) rfl ?_
  rintro e w2 ⟨_, rfl, rfl, hS2⟩; refine ⟨_, rfl, ?_⟩
  replace hS2 := hS2.join rfl; dsimp only [List.dropLast, List.cons_append, List.nil_append] at hS2; clear hC2
  clear hS1
  refine wl_nil ?_
  refine qs_seq ?_
  refine wc_seq ?_
  refine wc_region ?_
  refine wl_move rfl rfl ?_
  have hC3 := hS2.split [0] [true, false] rfl; dsimp only [selF, pickA, nthA, List.cons_append, List.nil_append] at hC3
  refine wl_call cal_28 rfl (put_sp hC3 [98] [121] (by simp) (by simp)) rfl ?_
  rintro e w3 ⟨_, rfl, rfl, hS3⟩; refine ⟨_, rfl, ?_⟩
  replace hS3 := hS3.join rfl; dsimp only [List.dropLast, List.cons_append, List.nil_append] at hS3; clear hC3
  clear hS2
  refine wl_nil ?_
  refine qs_seq ?_
  refine wc_seq ?_
  refine wc_region ?_
  refine wl_move rfl rfl ?_
  have hC4 := hS3.split [0] [true, false] rfl; dsimp only [selF, pickA, nthA, List.cons_append, List.nil_append] at hC4
  refine wl_call cal_34 rfl (setByte_sp hC4 [111] 65 7 (by simp)) rfl ?_
  rintro e w4 ⟨_, rfl, rfl, hS4⟩; refine ⟨_, rfl, ?_⟩
  replace hS4 := hS4.join rfl; dsimp only [List.dropLast, List.cons_append, List.nil_append] at hS4; clear hC4
  clear hS3
  refine wl_nil ?_
  refine qs_seq ?_
  refine wc_sub (L' := [(1, _), (0, _)]) (.cons rfl (.cons rfl .nil)) ?_
  refine wc_seq ?_
  refine wc_region ?_
  refine wl_move rfl rfl ?_
  have hC5 := hS4.split [0] [true, false] rfl; dsimp only [selF, pickA, nthA, List.cons_append, List.nil_append] at hC5
  refine wl_call cal_35 rfl (copy_sp hC5 [111] 1 1 [112] 0 (by simp) (by omega) (by omega) (by omega)) rfl ?_
  rintro e w5 ⟨_, rfl, rfl, hS5⟩; refine ⟨_, rfl, ?_⟩
  replace hS5 := hS5.join rfl; dsimp only [List.dropLast, List.cons_append, List.nil_append] at hS5; clear hC5
  clear hS4
  refine wl_nil ?_
  refine qs_seq ?_
  refine wc_seq ?_
  refine wc_region ?_
  refine wl_move rfl rfl ?_
  have hC6 := hS5.split [0] [true, false] rfl; dsimp only [selF, pickA, nthA, List.cons_append, List.nil_append] at hC6
  refine wl_call cal_34 rfl (setByte_sp hC6 [113] 0 5 (by simp)) rfl ?_
  rintro e w6 ⟨_, rfl, rfl, hS6⟩; refine ⟨_, rfl, ?_⟩
  replace hS6 := hS6.join rfl; dsimp only [List.dropLast, List.cons_append, List.nil_append] at hS6; clear hC6
  clear hS5
  refine wl_nil ?_
  refine qs_seq ?_
  refine wc_seq ?_
  refine wc_region ?_
  refine wl_move rfl rfl ?_
  have hC7 := hS6.split [0] [true, false] rfl; dsimp only [selF, pickA, nthA, List.cons_append, List.nil_append] at hC7
  refine wl_call cal_35 rfl (copy_sp hC7 [113] 0 2 [113] 1 (by simp) (by omega) (by omega) (by omega)) rfl ?_
  rintro e w7 ⟨_, rfl, rfl, hS7⟩; refine ⟨_, rfl, ?_⟩
  replace hS7 := hS7.join rfl; dsimp only [List.dropLast, List.cons_append, List.nil_append] at hS7; clear hC7
  clear hS6
  change Sat _ [worldT p smallW, F] at hS7
  refine wl_nil ?_
  refine qs_seq ?_
  refine wc_seq ?_
  refine wc_region ?_
  refine wl_move rfl rfl ?_
  have hC8 := hS7.split [0] [true, false] rfl; dsimp only [selF, pickA, nthA, List.cons_append, List.nil_append] at hC8
  refine wl_call cal_20 rfl (keys_sp hC8 [97, 47] small_keys) rfl ?_
  rintro e w8 ⟨_, rfl, lk, hlk, hS8⟩; refine ⟨_, rfl, ?_⟩
  replace hS8 := hS8.join rfl; dsimp only [List.dropLast, List.cons_append, List.nil_append] at hS8; clear hC8
  clear hS7
  obtain rfl := small_list hlk
  refine wl_rowBuild stC [[97, 47, 49]] hS8 rfl Tryz.underlying28 ifz_9 rfl rfl rfl rfl (by first | rfl | simp [RowC.cells, fillL, splice]) rfl ?_
  intro b9 w9 hS9
  clear hS8
  have hC10 := hS9.split [] [false, false, false, false] rfl; dsimp only [selF, pickA, nthA, List.cons_append, List.nil_append] at hC10
  refine wl_call cal_18 rfl (same_sp hC10 (Ent.starL (ent_row (C := stC) (l := [[97, 47, 49]]) (by simp)) 1 rfl) (Ent.starL (ent_row (C := stC) (l := [[97, 47, 49]]) (by simp)) 0 rfl)) rfl ?_
  rintro e w10 ⟨_, rfl, rfl, hS10⟩; refine ⟨_, rfl, ?_⟩
  replace hS10 := hS10.join rfl; dsimp only [List.dropLast, List.cons_append, List.nil_append] at hS10; clear hC10
  clear hS9
  refine wl_move rfl rfl ?_
  refine wl_split 21 rfl (fun h11 => ?_) (fun h11 => ?_)
  · skip
    refine wl_guard rfl rfl h11 ?_
    refine wl_move rfl rfl ?_
    refine wl_guard rfl rfl h11 ?_
    have hC12 := hS10.split [2] [false, false, true, false] rfl; dsimp only [selF, pickA, nthA, List.cons_append, List.nil_append] at hC12
    refine wl_call cal_36 rfl (byte_sp hC12 [112] 1) rfl ?_
    rintro e w12 ⟨_, rfl, rfl, hS12⟩; refine ⟨_, rfl, ?_⟩
    replace hS12 := hS12.join rfl; dsimp only [List.dropLast, List.cons_append, List.nil_append] at hS12; clear hC12
    clear hS10
    refine wl_guard rfl rfl h11 ?_
    refine wl_eql rfl rfl rfl ?_
    refine wl_pickT rfl h11 rfl rfl ?_
    refine wl_move rfl rfl ?_
    refine wl_splitD 26 rfl (fun h13 => ?_) (fun h13 => ?_)
    · skip
      refine wl_guard rfl rfl (decide_eq_true h13) ?_
      refine wl_move rfl rfl ?_
      refine wl_guard rfl rfl (decide_eq_true h13) ?_
      have hC14 := hS12.split [0] [true, false, false, false] rfl; dsimp only [selF, pickA, nthA, List.cons_append, List.nil_append] at hC14
      refine wl_call cal_36 rfl (byte_sp hC14 [113] 64) rfl ?_
      rintro e w14 ⟨_, rfl, rfl, hS14⟩; refine ⟨_, rfl, ?_⟩
      replace hS14 := hS14.join rfl; dsimp only [List.dropLast, List.cons_append, List.nil_append] at hS14; clear hC14
      clear hS12
      refine wl_guard rfl rfl (decide_eq_true h13) ?_
      refine wl_eql rfl rfl rfl ?_
      refine wl_pickT rfl (decide_eq_true h13) rfl rfl ?_
      refine wl_move rfl rfl ?_
      refine wl_splitD 31 rfl (fun h15 => ?_) (fun h15 => ?_)
      · skip
        refine wl_guard rfl rfl (decide_eq_true h15) ?_
        refine wl_move rfl rfl ?_
        refine wl_guard rfl rfl (decide_eq_true h15) ?_
        have hC16 := hS14.split [0] [true, false, false, false] rfl; dsimp only [selF, pickA, nthA, List.cons_append, List.nil_append] at hC16
        refine wl_call cal_36 rfl (byte_sp hC16 [113] 128) rfl ?_
        rintro e w16 ⟨_, rfl, rfl, hS16⟩; refine ⟨_, rfl, ?_⟩
        replace hS16 := hS16.join rfl; dsimp only [List.dropLast, List.cons_append, List.nil_append] at hS16; clear hC16
        clear hS14
        refine wl_guard rfl rfl (decide_eq_true h15) ?_
        refine wl_eql rfl rfl rfl ?_
        refine wl_pickT rfl (decide_eq_true h15) rfl rfl ?_
        refine wl_move rfl rfl ?_
        refine wl_splitD 36 rfl (fun h17 => ?_) (fun h17 => ?_)
        · skip
          refine wl_guard rfl rfl (decide_eq_true h17) ?_
          refine wl_move rfl rfl ?_
          refine wl_guard rfl rfl (decide_eq_true h17) ?_
          have hC18 := hS16.split [0] [true, false, false, false] rfl; dsimp only [selF, pickA, nthA, List.cons_append, List.nil_append] at hC18
          refine wl_call cal_32 rfl (get_sp hC18 [98]) rfl ?_
          rintro e w18 ⟨_, rfl, rfl, hS18⟩; refine ⟨_, rfl, ?_⟩
          replace hS18 := hS18.join rfl; dsimp only [List.dropLast, List.cons_append, List.nil_append] at hS18; clear hC18
          clear hS16
          refine wl_guard rfl rfl (decide_eq_true h17) ?_
          refine wl_eqlS rfl rfl rfl ?_
          refine wl_pickT rfl (decide_eq_true h17) rfl rfl ?_
          refine wl_assign rfl rfl ?_
          refine wl_nil ?_
          refine qs_seq ?_
          refine wc_sub (L' := [(0, _)]) (.cons rfl .nil) ?_
          refine wc_ret ?_
          refine fin1 (.inr rfl) rfl rfl ?_
          exact ⟨_, rfl, by first | rfl | simp [small_get], hS18.pick [3] rfl⟩
        · skip
          exact absurd (by rw [small_b2]; rfl) h17
      · skip
        exact absurd (by rw [small_b1]; rfl) h15
    · skip
      exact absurd (by rw [small_b0]; rfl) h13
  · skip
    simp at h11

end Go.Proofs.YtieelilkkpcmdaaGreatDoor
