/- laws of world: WorldPages -/
import Derived.Test.YtieelilkkpcmdaaDoorWcl
import Derived.Test.YtieelilkkpcmdaaDoorWq
namespace Go.Proofs.YtieelilkkpcmdaaDoor
open Go.RowKit M
set_option linter.unusedVariables false
theorem world_ok {w : World} {As : List Th} {p : Nat} {W : WS} (i : Nat) (h : Sat w As) (hi : As[i]? = some (worldT p W)) : PagesOk W.objs := by
  obtain ⟨_, h1, _⟩ := worldT_open (h.pull i hi)
  exact h1
theorem pages_byte {W : WS} {frm to : Bs} {fi cn at_ : Int} {i : Nat} (hI : PagesOk W.objs) (hi : i < 16384) : byteW (copyS W frm fi cn to at_) to (i : Int) = if at_ ≤ (i : Int) / 64 ∧ (i : Int) / 64 < at_ + cn then (if 0 ≤ fi + (i : Int) / 64 - at_ ∧ fi + (i : Int) / 64 - at_ < 256 then byteW W frm (64 * (fi + (i : Int) / 64 - at_) + (i : Int) % 64) else 0) else byteW W to (i : Int) := by
  have hb : (0 : Int) ≤ (i : Int) ∧ (i : Int) < 16384 := by omega
  unfold byteW
  rw [if_pos hb, if_pos hb]
  have e : (copyS W frm fi cn to at_).objs to ((i : Int) / 64) = if at_ ≤ (i : Int) / 64 ∧ (i : Int) / 64 < at_ + cn then W.objs frm (fi + (i : Int) / 64 - at_) else W.objs to ((i : Int) / 64) := by
    unfold copyS copyTo; dsimp only
    by_cases h : at_ ≤ (i : Int) / 64 ∧ (i : Int) / 64 < at_ + cn
    · rw [if_pos h, if_pos ⟨rfl, by omega, by omega⟩]
    · rw [if_neg h, if_neg (by omega)]
  rw [e]
  by_cases h : at_ ≤ (i : Int) / 64 ∧ (i : Int) / 64 < at_ + cn
  · rw [if_pos h, if_pos h]
    by_cases h2 : 0 ≤ fi + (i : Int) / 64 - at_ ∧ fi + (i : Int) / 64 - at_ < 256
    · rw [if_pos h2, if_pos (by omega)]
      rw [show (64 * (fi + (i : Int) / 64 - at_) + (i : Int) % 64) / 64 = fi + (i : Int) / 64 - at_ by omega, show (64 * (fi + (i : Int) / 64 - at_) + (i : Int) % 64) % 64 = (i : Int) % 64 by omega]
    · rw [if_neg h2]
      have hn : W.objs frm (fi + (i : Int) / 64 - at_) = none := by
        cases hq : W.objs frm (fi + (i : Int) / 64 - at_) with
        | none => rfl
        | some s => exact absurd (hI.ok _ _ _ hq).2.2 h2
      rw [hn]
      rw [pageOf, Option.getD_none, zero64, List.getD_eq_getElem?_getD, List.getElem?_replicate]
      split <;> rfl
  · rw [if_neg h, if_neg h]
theorem pages_obj {W : WS} {frm to : Bs} {fi cn at_ : Int} (h : frm ≠ to) : objB (copyS W frm fi cn to at_) frm = objB W frm := by
  refine objB_congr ?_
  funext q
  simp only [copyS, copyTo]; rw [if_neg (fun e => h e.1)]
set_option maxRecDepth 100000 in
theorem pages_law {w : World} {F : Th} (hS : Sat w [F]) {lv : Value} {l : List OpD} (frm : Bs) (fi cn : Int) (to : Bs) (at_ : Int) (hL : Ent F (RdL opC lv l)) :
    Calls Tryd.prog 4 #[lv, strV frm, intV fi, intV cn, strV to, intV at_] w (Ret fun v w' => v = .bool true ∧ Sat w' [F]) := by
  obtain ⟨ao, cap, rfl, hmax⟩ := (hL.sat hS 0 rfl).shape
  refine calls_enter Tryd.func4 rfl Tryd.ntmps4 rfl ?_
  refine wc_seq ?_
  refine wc_region ?_
  refine wl_assign rfl rfl ?_
  refine wl_nil ?_
  refine qs_seq ?_
  refine wc_seq ?_
  refine wc_region ?_
  have hC1 := hS.split [] [false] rfl; dsimp only [selF, pickA, nthA, List.cons_append, List.nil_append] at hC1
  refine wl_call cal_9 rfl (small_sp hC1) rfl ?_
  rintro e w1 ⟨_, rfl, rfl, hS1⟩; refine ⟨_, rfl, ?_⟩
  replace hS1 := hS1.join rfl; dsimp only [List.dropLast, List.cons_append, List.nil_append] at hS1; clear hC1
  refine wl_assign rfl rfl ?_
  refine wl_nil ?_
  refine qs_seq ?_
  refine wc_seq ?_
  refine wc_region ?_
  refine wl_move rfl rfl ?_
  have hC2 := hS1.split [] [false] rfl; dsimp only [selF, pickA, nthA, List.cons_append, List.nil_append] at hC2
  refine wl_call cal_10 rfl (played_sp hC2 (hL.starL 0 rfl)) rfl ?_
  rintro e w2 ⟨_, rfl, p, rfl, hS2⟩; refine ⟨_, rfl, ?_⟩
  replace hS2 := hS2.join rfl; dsimp only [List.dropLast, List.cons_append, List.nil_append] at hS2; clear hC2
  clear hS1
  refine wl_assign rfl rfl ?_
  refine wl_nil ?_
  refine qs_seq ?_
  refine wc_sub (L' := [(14, _), (13, _), (12, _), (0, _), (1, _), (2, _), (3, _), (4, _), (5, _)]) (.cons rfl (.cons rfl (.cons rfl (.cons rfl (.cons rfl (.cons rfl (.cons rfl (.cons rfl (.cons rfl .nil))))))))) ?_
  refine wc_seq ?_
  refine wc_seq ?_
  refine wc_region ?_
  refine wl_move rfl rfl ?_
  have hC3 := hS2.split [] [false, false] rfl; dsimp only [selF, pickA, nthA, List.cons_append, List.nil_append] at hC3
  refine wl_call cal_11 rfl (few_sp hC3 (hL.starL 1 rfl) 40) rfl ?_
  rintro e w3 ⟨_, rfl, rfl, hS3⟩; refine ⟨_, rfl, ?_⟩
  replace hS3 := hS3.join rfl; dsimp only [List.dropLast, List.cons_append, List.nil_append] at hS3; clear hC3
  clear hS2
  refine wl_not rfl rfl ?_
  refine wl_move rfl rfl ?_
  refine wl_split 26 rfl (fun h4 => ?_) (fun h4 => ?_)
  · skip
    refine wl_unwanted rfl rfl h4 rfl ?_
    refine wl_unwanted rfl rfl h4 rfl ?_
    refine wl_unwanted rfl rfl h4 rfl ?_
    refine wl_pickT rfl h4 rfl rfl ?_
    refine wl_move rfl rfl ?_
    refine wl_unwanted rfl rfl rfl rfl ?_
    refine wl_unwanted rfl rfl rfl rfl ?_
    refine wl_unwanted rfl rfl rfl rfl ?_
    refine wl_pickT rfl rfl rfl rfl ?_
    refine wl_move rfl rfl ?_
    refine wl_unwanted rfl rfl rfl rfl ?_
    refine wl_unwanted rfl rfl rfl rfl ?_
    refine wl_pickT rfl rfl rfl rfl ?_
    refine wl_move rfl rfl ?_
    refine wl_unwanted rfl rfl rfl rfl ?_
    refine wl_unwanted rfl rfl rfl rfl ?_
    refine wl_pickT rfl rfl rfl rfl ?_
    refine wl_move rfl rfl ?_
    refine wl_unwanted rfl rfl rfl rfl ?_
    refine wl_unwanted rfl rfl rfl rfl ?_
    refine wl_pickT rfl rfl rfl rfl ?_
    refine wl_move rfl rfl ?_
    refine wl_unwanted rfl rfl rfl rfl ?_
    refine wl_unwanted rfl rfl rfl rfl ?_
    refine wl_pickT rfl rfl rfl rfl ?_
    refine wl_move rfl rfl ?_
    refine wl_unwanted rfl rfl rfl rfl ?_
    refine wl_unwanted rfl rfl rfl rfl ?_
    refine wl_pickT rfl rfl rfl rfl ?_
    refine wl_move rfl rfl ?_
    refine wl_unwanted rfl rfl rfl rfl ?_
    refine wl_unwanted rfl rfl rfl rfl ?_
    refine wl_pickT rfl rfl rfl rfl ?_
    refine wl_move rfl rfl ?_
    refine wl_unwanted rfl rfl rfl rfl ?_
    refine wl_unwanted rfl rfl rfl rfl ?_
    refine wl_pickT rfl rfl rfl rfl ?_
    refine wl_nil ?_
    refine qs_seq ?_
    refine wc_sub (L' := [(63, _), (14, _), (13, _), (12, _), (1, _), (2, _), (3, _), (4, _), (5, _)]) (.cons rfl (.cons rfl (.cons rfl (.cons rfl (.cons rfl (.cons rfl (.cons rfl (.cons rfl (.cons rfl .nil))))))))) ?_
    refine wc_condT rfl ?_
    refine wc_seq ?_
    refine wc_region ?_
    refine wl_move rfl rfl ?_
    refine wl_move rfl rfl ?_
    refine wl_guard rfl rfl rfl ?_
    refine wl_move rfl rfl ?_
    refine wl_guard rfl rfl rfl ?_
    refine wl_neqNil Tryd.underlying26 rfl rfl rfl ?_
    refine wl_pickT rfl rfl rfl rfl ?_
    refine wl_assign rfl rfl ?_
    refine wl_nil ?_
    refine qs_seq ?_
    refine wc_sub (L' := [(12, _), (14, _), (13, _), (1, _), (2, _), (3, _), (4, _), (5, _)]) (.cons rfl (.cons rfl (.cons rfl (.cons rfl (.cons rfl (.cons rfl (.cons rfl (.cons rfl .nil)))))))) ?_
    refine wc_ret ?_
    refine qs_then_ret ?_
    refine fin1 (.inr rfl) rfl rfl ?_
    exact ⟨_, rfl, by first | rfl | (rw [decide_eq_true (pages_obj (by assumption))]), hS3.pick [1] rfl⟩
  · skip
    have hfew : fewB l 40 = true := by simpa using h4
    refine wl_guard rfl rfl h4 ?_
    refine wl_move rfl rfl ?_
    refine wl_guard rfl rfl h4 ?_
    refine wl_lenS Tryd.underlying9 rfl rfl ?_
    refine wl_guard rfl rfl h4 ?_
    refine wl_gtr rfl rfl rfl ?_
    refine wl_pickF rfl h4 rfl rfl ?_
    refine wl_move rfl rfl ?_
    refine wl_splitD 31 rfl (fun h5 => ?_) (fun h5 => ?_)
    · skip
      refine wl_unwanted rfl rfl (decide_eq_true h5) rfl ?_
      refine wl_unwanted rfl rfl (decide_eq_true h5) rfl ?_
      refine wl_unwanted rfl rfl (decide_eq_true h5) rfl ?_
      refine wl_pickT rfl (decide_eq_true h5) rfl rfl ?_
      refine wl_move rfl rfl ?_
      refine wl_unwanted rfl rfl rfl rfl ?_
      refine wl_unwanted rfl rfl rfl rfl ?_
      refine wl_pickT rfl rfl rfl rfl ?_
      refine wl_move rfl rfl ?_
      refine wl_unwanted rfl rfl rfl rfl ?_
      refine wl_unwanted rfl rfl rfl rfl ?_
      refine wl_pickT rfl rfl rfl rfl ?_
      refine wl_move rfl rfl ?_
      refine wl_unwanted rfl rfl rfl rfl ?_
      refine wl_unwanted rfl rfl rfl rfl ?_
      refine wl_pickT rfl rfl rfl rfl ?_
      refine wl_move rfl rfl ?_
      refine wl_unwanted rfl rfl rfl rfl ?_
      refine wl_unwanted rfl rfl rfl rfl ?_
      refine wl_pickT rfl rfl rfl rfl ?_
      refine wl_move rfl rfl ?_
      refine wl_unwanted rfl rfl rfl rfl ?_
      refine wl_unwanted rfl rfl rfl rfl ?_
      refine wl_pickT rfl rfl rfl rfl ?_
      refine wl_move rfl rfl ?_
      refine wl_unwanted rfl rfl rfl rfl ?_
      refine wl_unwanted rfl rfl rfl rfl ?_
      refine wl_pickT rfl rfl rfl rfl ?_
      refine wl_move rfl rfl ?_
      refine wl_unwanted rfl rfl rfl rfl ?_
      refine wl_unwanted rfl rfl rfl rfl ?_
      refine wl_pickT rfl rfl rfl rfl ?_
      refine wl_nil ?_
      refine qs_seq ?_
      refine wc_sub (L' := [(63, _), (14, _), (13, _), (12, _), (1, _), (2, _), (3, _), (4, _), (5, _)]) (.cons rfl (.cons rfl (.cons rfl (.cons rfl (.cons rfl (.cons rfl (.cons rfl (.cons rfl (.cons rfl .nil))))))))) ?_
      refine wc_condT rfl ?_
      refine wc_seq ?_
      refine wc_region ?_
      refine wl_move rfl rfl ?_
      refine wl_move rfl rfl ?_
      refine wl_guard rfl rfl rfl ?_
      refine wl_move rfl rfl ?_
      refine wl_guard rfl rfl rfl ?_
      refine wl_neqNil Tryd.underlying26 rfl rfl rfl ?_
      refine wl_pickT rfl rfl rfl rfl ?_
      refine wl_assign rfl rfl ?_
      refine wl_nil ?_
      refine qs_seq ?_
      refine wc_sub (L' := [(12, _), (14, _), (13, _), (1, _), (2, _), (3, _), (4, _), (5, _)]) (.cons rfl (.cons rfl (.cons rfl (.cons rfl (.cons rfl (.cons rfl (.cons rfl (.cons rfl .nil)))))))) ?_
      refine wc_ret ?_
      refine qs_then_ret ?_
      refine fin1 (.inr rfl) rfl rfl ?_
      exact ⟨_, rfl, by first | rfl | (rw [decide_eq_true (pages_obj (by assumption))]), hS3.pick [1] rfl⟩
    · skip
      refine wl_guard rfl rfl (decide_eq_false h5) ?_
      refine wl_move rfl rfl ?_
      refine wl_guard rfl rfl (decide_eq_false h5) ?_
      refine wl_lenS Tryd.underlying9 rfl rfl ?_
      refine wl_guard rfl rfl (decide_eq_false h5) ?_
      refine wl_gtr rfl rfl rfl ?_
      refine wl_pickF rfl (decide_eq_false h5) rfl rfl ?_
      refine wl_move rfl rfl ?_
      refine wl_splitD 36 rfl (fun h6 => ?_) (fun h6 => ?_)
      · skip
        refine wl_unwanted rfl rfl (decide_eq_true h6) rfl ?_
        refine wl_unwanted rfl rfl (decide_eq_true h6) rfl ?_
        refine wl_pickT rfl (decide_eq_true h6) rfl rfl ?_
        refine wl_move rfl rfl ?_
        refine wl_unwanted rfl rfl rfl rfl ?_
        refine wl_unwanted rfl rfl rfl rfl ?_
        refine wl_pickT rfl rfl rfl rfl ?_
        refine wl_move rfl rfl ?_
        refine wl_unwanted rfl rfl rfl rfl ?_
        refine wl_unwanted rfl rfl rfl rfl ?_
        refine wl_pickT rfl rfl rfl rfl ?_
        refine wl_move rfl rfl ?_
        refine wl_unwanted rfl rfl rfl rfl ?_
        refine wl_unwanted rfl rfl rfl rfl ?_
        refine wl_pickT rfl rfl rfl rfl ?_
        refine wl_move rfl rfl ?_
        refine wl_unwanted rfl rfl rfl rfl ?_
        refine wl_unwanted rfl rfl rfl rfl ?_
        refine wl_pickT rfl rfl rfl rfl ?_
        refine wl_move rfl rfl ?_
        refine wl_unwanted rfl rfl rfl rfl ?_
        refine wl_unwanted rfl rfl rfl rfl ?_
        refine wl_pickT rfl rfl rfl rfl ?_
        refine wl_move rfl rfl ?_
        refine wl_unwanted rfl rfl rfl rfl ?_
        refine wl_unwanted rfl rfl rfl rfl ?_
        refine wl_pickT rfl rfl rfl rfl ?_
        refine wl_nil ?_
        refine qs_seq ?_
        refine wc_sub (L' := [(63, _), (14, _), (13, _), (12, _), (1, _), (2, _), (3, _), (4, _), (5, _)]) (.cons rfl (.cons rfl (.cons rfl (.cons rfl (.cons rfl (.cons rfl (.cons rfl (.cons rfl (.cons rfl .nil))))))))) ?_
        refine wc_condT rfl ?_
        refine wc_seq ?_
        refine wc_region ?_
        refine wl_move rfl rfl ?_
        refine wl_move rfl rfl ?_
        refine wl_guard rfl rfl rfl ?_
        refine wl_move rfl rfl ?_
        refine wl_guard rfl rfl rfl ?_
        refine wl_neqNil Tryd.underlying26 rfl rfl rfl ?_
        refine wl_pickT rfl rfl rfl rfl ?_
        refine wl_assign rfl rfl ?_
        refine wl_nil ?_
        refine qs_seq ?_
        refine wc_sub (L' := [(12, _), (14, _), (13, _), (1, _), (2, _), (3, _), (4, _), (5, _)]) (.cons rfl (.cons rfl (.cons rfl (.cons rfl (.cons rfl (.cons rfl (.cons rfl (.cons rfl .nil)))))))) ?_
        refine wc_ret ?_
        refine qs_then_ret ?_
        refine fin1 (.inr rfl) rfl rfl ?_
        exact ⟨_, rfl, by first | rfl | (rw [decide_eq_true (pages_obj (by assumption))]), hS3.pick [1] rfl⟩
      · skip
        refine wl_guard rfl rfl (decide_eq_false h6) ?_
        refine wl_move rfl rfl ?_
        refine wl_guard rfl rfl (decide_eq_false h6) ?_
        refine wl_lss rfl rfl rfl ?_
        refine wl_pickF rfl (decide_eq_false h6) rfl rfl ?_
        refine wl_move rfl rfl ?_
        refine wl_splitD 40 rfl (fun h7 => ?_) (fun h7 => ?_)
        · skip
          refine wl_unwanted rfl rfl (decide_eq_true h7) rfl ?_
          refine wl_unwanted rfl rfl (decide_eq_true h7) rfl ?_
          refine wl_pickT rfl (decide_eq_true h7) rfl rfl ?_
          refine wl_move rfl rfl ?_
          refine wl_unwanted rfl rfl rfl rfl ?_
          refine wl_unwanted rfl rfl rfl rfl ?_
          refine wl_pickT rfl rfl rfl rfl ?_
          refine wl_move rfl rfl ?_
          refine wl_unwanted rfl rfl rfl rfl ?_
          refine wl_unwanted rfl rfl rfl rfl ?_
          refine wl_pickT rfl rfl rfl rfl ?_
          refine wl_move rfl rfl ?_
          refine wl_unwanted rfl rfl rfl rfl ?_
          refine wl_unwanted rfl rfl rfl rfl ?_
          refine wl_pickT rfl rfl rfl rfl ?_
          refine wl_move rfl rfl ?_
          refine wl_unwanted rfl rfl rfl rfl ?_
          refine wl_unwanted rfl rfl rfl rfl ?_
          refine wl_pickT rfl rfl rfl rfl ?_
          refine wl_move rfl rfl ?_
          refine wl_unwanted rfl rfl rfl rfl ?_
          refine wl_unwanted rfl rfl rfl rfl ?_
          refine wl_pickT rfl rfl rfl rfl ?_
          refine wl_nil ?_
          refine qs_seq ?_
          refine wc_sub (L' := [(63, _), (14, _), (13, _), (12, _), (1, _), (2, _), (3, _), (4, _), (5, _)]) (.cons rfl (.cons rfl (.cons rfl (.cons rfl (.cons rfl (.cons rfl (.cons rfl (.cons rfl (.cons rfl .nil))))))))) ?_
          refine wc_condT rfl ?_
          refine wc_seq ?_
          refine wc_region ?_
          refine wl_move rfl rfl ?_
          refine wl_move rfl rfl ?_
          refine wl_guard rfl rfl rfl ?_
          refine wl_move rfl rfl ?_
          refine wl_guard rfl rfl rfl ?_
          refine wl_neqNil Tryd.underlying26 rfl rfl rfl ?_
          refine wl_pickT rfl rfl rfl rfl ?_
          refine wl_assign rfl rfl ?_
          refine wl_nil ?_
          refine qs_seq ?_
          refine wc_sub (L' := [(12, _), (14, _), (13, _), (1, _), (2, _), (3, _), (4, _), (5, _)]) (.cons rfl (.cons rfl (.cons rfl (.cons rfl (.cons rfl (.cons rfl (.cons rfl (.cons rfl .nil)))))))) ?_
          refine wc_ret ?_
          refine qs_then_ret ?_
          refine fin1 (.inr rfl) rfl rfl ?_
          exact ⟨_, rfl, by first | rfl | (rw [decide_eq_true (pages_obj (by assumption))]), hS3.pick [1] rfl⟩
        · skip
          refine wl_guard rfl rfl (decide_eq_false h7) ?_
          refine wl_move rfl rfl ?_
          refine wl_guard rfl rfl (decide_eq_false h7) ?_
          refine wl_gtr rfl rfl rfl ?_
          refine wl_pickF rfl (decide_eq_false h7) rfl rfl ?_
          refine wl_move rfl rfl ?_
          refine wl_splitD 44 rfl (fun h8 => ?_) (fun h8 => ?_)
          · skip
            refine wl_unwanted rfl rfl (decide_eq_true h8) rfl ?_
            refine wl_unwanted rfl rfl (decide_eq_true h8) rfl ?_
            refine wl_pickT rfl (decide_eq_true h8) rfl rfl ?_
            refine wl_move rfl rfl ?_
            refine wl_unwanted rfl rfl rfl rfl ?_
            refine wl_unwanted rfl rfl rfl rfl ?_
            refine wl_pickT rfl rfl rfl rfl ?_
            refine wl_move rfl rfl ?_
            refine wl_unwanted rfl rfl rfl rfl ?_
            refine wl_unwanted rfl rfl rfl rfl ?_
            refine wl_pickT rfl rfl rfl rfl ?_
            refine wl_move rfl rfl ?_
            refine wl_unwanted rfl rfl rfl rfl ?_
            refine wl_unwanted rfl rfl rfl rfl ?_
            refine wl_pickT rfl rfl rfl rfl ?_
            refine wl_move rfl rfl ?_
            refine wl_unwanted rfl rfl rfl rfl ?_
            refine wl_unwanted rfl rfl rfl rfl ?_
            refine wl_pickT rfl rfl rfl rfl ?_
            refine wl_nil ?_
            refine qs_seq ?_
            refine wc_sub (L' := [(63, _), (14, _), (13, _), (12, _), (1, _), (2, _), (3, _), (4, _), (5, _)]) (.cons rfl (.cons rfl (.cons rfl (.cons rfl (.cons rfl (.cons rfl (.cons rfl (.cons rfl (.cons rfl .nil))))))))) ?_
            refine wc_condT rfl ?_
            refine wc_seq ?_
            refine wc_region ?_
            refine wl_move rfl rfl ?_
            refine wl_move rfl rfl ?_
            refine wl_guard rfl rfl rfl ?_
            refine wl_move rfl rfl ?_
            refine wl_guard rfl rfl rfl ?_
            refine wl_neqNil Tryd.underlying26 rfl rfl rfl ?_
            refine wl_pickT rfl rfl rfl rfl ?_
            refine wl_assign rfl rfl ?_
            refine wl_nil ?_
            refine qs_seq ?_
            refine wc_sub (L' := [(12, _), (14, _), (13, _), (1, _), (2, _), (3, _), (4, _), (5, _)]) (.cons rfl (.cons rfl (.cons rfl (.cons rfl (.cons rfl (.cons rfl (.cons rfl (.cons rfl .nil)))))))) ?_
            refine wc_ret ?_
            refine qs_then_ret ?_
            refine fin1 (.inr rfl) rfl rfl ?_
            exact ⟨_, rfl, by first | rfl | (rw [decide_eq_true (pages_obj (by assumption))]), hS3.pick [1] rfl⟩
          · skip
            refine wl_guard rfl rfl (decide_eq_false h8) ?_
            refine wl_move rfl rfl ?_
            refine wl_guard rfl rfl (decide_eq_false h8) ?_
            refine wl_lss rfl rfl rfl ?_
            refine wl_pickF rfl (decide_eq_false h8) rfl rfl ?_
            refine wl_move rfl rfl ?_
            refine wl_splitD 48 rfl (fun h9 => ?_) (fun h9 => ?_)
            · skip
              refine wl_unwanted rfl rfl (decide_eq_true h9) rfl ?_
              refine wl_unwanted rfl rfl (decide_eq_true h9) rfl ?_
              refine wl_pickT rfl (decide_eq_true h9) rfl rfl ?_
              refine wl_move rfl rfl ?_
              refine wl_unwanted rfl rfl rfl rfl ?_
              refine wl_unwanted rfl rfl rfl rfl ?_
              refine wl_pickT rfl rfl rfl rfl ?_
              refine wl_move rfl rfl ?_
              refine wl_unwanted rfl rfl rfl rfl ?_
              refine wl_unwanted rfl rfl rfl rfl ?_
              refine wl_pickT rfl rfl rfl rfl ?_
              refine wl_move rfl rfl ?_
              refine wl_unwanted rfl rfl rfl rfl ?_
              refine wl_unwanted rfl rfl rfl rfl ?_
              refine wl_pickT rfl rfl rfl rfl ?_
              refine wl_nil ?_
              refine qs_seq ?_
              refine wc_sub (L' := [(63, _), (14, _), (13, _), (12, _), (1, _), (2, _), (3, _), (4, _), (5, _)]) (.cons rfl (.cons rfl (.cons rfl (.cons rfl (.cons rfl (.cons rfl (.cons rfl (.cons rfl (.cons rfl .nil))))))))) ?_
              refine wc_condT rfl ?_
              refine wc_seq ?_
              refine wc_region ?_
              refine wl_move rfl rfl ?_
              refine wl_move rfl rfl ?_
              refine wl_guard rfl rfl rfl ?_
              refine wl_move rfl rfl ?_
              refine wl_guard rfl rfl rfl ?_
              refine wl_neqNil Tryd.underlying26 rfl rfl rfl ?_
              refine wl_pickT rfl rfl rfl rfl ?_
              refine wl_assign rfl rfl ?_
              refine wl_nil ?_
              refine qs_seq ?_
              refine wc_sub (L' := [(12, _), (14, _), (13, _), (1, _), (2, _), (3, _), (4, _), (5, _)]) (.cons rfl (.cons rfl (.cons rfl (.cons rfl (.cons rfl (.cons rfl (.cons rfl (.cons rfl .nil)))))))) ?_
              refine wc_ret ?_
              refine qs_then_ret ?_
              refine fin1 (.inr rfl) rfl rfl ?_
              exact ⟨_, rfl, by first | rfl | (rw [decide_eq_true (pages_obj (by assumption))]), hS3.pick [1] rfl⟩
            · skip
              refine wl_guard rfl rfl (decide_eq_false h9) ?_
              refine wl_move rfl rfl ?_
              refine wl_guard rfl rfl (decide_eq_false h9) ?_
              refine wl_gtr rfl rfl rfl ?_
              refine wl_pickF rfl (decide_eq_false h9) rfl rfl ?_
              refine wl_move rfl rfl ?_
              refine wl_splitD 52 rfl (fun h10 => ?_) (fun h10 => ?_)
              · skip
                refine wl_unwanted rfl rfl (decide_eq_true h10) rfl ?_
                refine wl_unwanted rfl rfl (decide_eq_true h10) rfl ?_
                refine wl_pickT rfl (decide_eq_true h10) rfl rfl ?_
                refine wl_move rfl rfl ?_
                refine wl_unwanted rfl rfl rfl rfl ?_
                refine wl_unwanted rfl rfl rfl rfl ?_
                refine wl_pickT rfl rfl rfl rfl ?_
                refine wl_move rfl rfl ?_
                refine wl_unwanted rfl rfl rfl rfl ?_
                refine wl_unwanted rfl rfl rfl rfl ?_
                refine wl_pickT rfl rfl rfl rfl ?_
                refine wl_nil ?_
                refine qs_seq ?_
                refine wc_sub (L' := [(63, _), (14, _), (13, _), (12, _), (1, _), (2, _), (3, _), (4, _), (5, _)]) (.cons rfl (.cons rfl (.cons rfl (.cons rfl (.cons rfl (.cons rfl (.cons rfl (.cons rfl (.cons rfl .nil))))))))) ?_
                refine wc_condT rfl ?_
                refine wc_seq ?_
                refine wc_region ?_
                refine wl_move rfl rfl ?_
                refine wl_move rfl rfl ?_
                refine wl_guard rfl rfl rfl ?_
                refine wl_move rfl rfl ?_
                refine wl_guard rfl rfl rfl ?_
                refine wl_neqNil Tryd.underlying26 rfl rfl rfl ?_
                refine wl_pickT rfl rfl rfl rfl ?_
                refine wl_assign rfl rfl ?_
                refine wl_nil ?_
                refine qs_seq ?_
                refine wc_sub (L' := [(12, _), (14, _), (13, _), (1, _), (2, _), (3, _), (4, _), (5, _)]) (.cons rfl (.cons rfl (.cons rfl (.cons rfl (.cons rfl (.cons rfl (.cons rfl (.cons rfl .nil)))))))) ?_
                refine wc_ret ?_
                refine qs_then_ret ?_
                refine fin1 (.inr rfl) rfl rfl ?_
                exact ⟨_, rfl, by first | rfl | (rw [decide_eq_true (pages_obj (by assumption))]), hS3.pick [1] rfl⟩
              · skip
                refine wl_guard rfl rfl (decide_eq_false h10) ?_
                refine wl_move rfl rfl ?_
                refine wl_guard rfl rfl (decide_eq_false h10) ?_
                refine wl_lss rfl rfl rfl ?_
                refine wl_pickF rfl (decide_eq_false h10) rfl rfl ?_
                refine wl_move rfl rfl ?_
                refine wl_splitD 56 rfl (fun h11 => ?_) (fun h11 => ?_)
                · skip
                  refine wl_unwanted rfl rfl (decide_eq_true h11) rfl ?_
                  refine wl_unwanted rfl rfl (decide_eq_true h11) rfl ?_
                  refine wl_pickT rfl (decide_eq_true h11) rfl rfl ?_
                  refine wl_move rfl rfl ?_
                  refine wl_unwanted rfl rfl rfl rfl ?_
                  refine wl_unwanted rfl rfl rfl rfl ?_
                  refine wl_pickT rfl rfl rfl rfl ?_
                  refine wl_nil ?_
                  refine qs_seq ?_
                  refine wc_sub (L' := [(63, _), (14, _), (13, _), (12, _), (1, _), (2, _), (3, _), (4, _), (5, _)]) (.cons rfl (.cons rfl (.cons rfl (.cons rfl (.cons rfl (.cons rfl (.cons rfl (.cons rfl (.cons rfl .nil))))))))) ?_
                  refine wc_condT rfl ?_
                  refine wc_seq ?_
                  refine wc_region ?_
                  refine wl_move rfl rfl ?_
                  refine wl_move rfl rfl ?_
                  refine wl_guard rfl rfl rfl ?_
                  refine wl_move rfl rfl ?_
                  refine wl_guard rfl rfl rfl ?_
                  refine wl_neqNil Tryd.underlying26 rfl rfl rfl ?_
                  refine wl_pickT rfl rfl rfl rfl ?_
                  refine wl_assign rfl rfl ?_
                  refine wl_nil ?_
                  refine qs_seq ?_
                  refine wc_sub (L' := [(12, _), (14, _), (13, _), (1, _), (2, _), (3, _), (4, _), (5, _)]) (.cons rfl (.cons rfl (.cons rfl (.cons rfl (.cons rfl (.cons rfl (.cons rfl (.cons rfl .nil)))))))) ?_
                  refine wc_ret ?_
                  refine qs_then_ret ?_
                  refine fin1 (.inr rfl) rfl rfl ?_
                  exact ⟨_, rfl, by first | rfl | (rw [decide_eq_true (pages_obj (by assumption))]), hS3.pick [1] rfl⟩
                · skip
                  refine wl_guard rfl rfl (decide_eq_false h11) ?_
                  refine wl_move rfl rfl ?_
                  refine wl_guard rfl rfl (decide_eq_false h11) ?_
                  refine wl_gtr rfl rfl rfl ?_
                  refine wl_pickF rfl (decide_eq_false h11) rfl rfl ?_
                  refine wl_move rfl rfl ?_
                  refine wl_splitD 60 rfl (fun h12 => ?_) (fun h12 => ?_)
                  · skip
                    refine wl_unwanted rfl rfl (decide_eq_true h12) rfl ?_
                    refine wl_unwanted rfl rfl (decide_eq_true h12) rfl ?_
                    refine wl_pickT rfl (decide_eq_true h12) rfl rfl ?_
                    refine wl_nil ?_
                    refine qs_seq ?_
                    refine wc_sub (L' := [(63, _), (14, _), (13, _), (12, _), (1, _), (2, _), (3, _), (4, _), (5, _)]) (.cons rfl (.cons rfl (.cons rfl (.cons rfl (.cons rfl (.cons rfl (.cons rfl (.cons rfl (.cons rfl .nil))))))))) ?_
                    refine wc_condT rfl ?_
                    refine wc_seq ?_
                    refine wc_region ?_
                    refine wl_move rfl rfl ?_
                    refine wl_move rfl rfl ?_
                    refine wl_guard rfl rfl rfl ?_
                    refine wl_move rfl rfl ?_
                    refine wl_guard rfl rfl rfl ?_
                    refine wl_neqNil Tryd.underlying26 rfl rfl rfl ?_
                    refine wl_pickT rfl rfl rfl rfl ?_
                    refine wl_assign rfl rfl ?_
                    refine wl_nil ?_
                    refine qs_seq ?_
                    refine wc_sub (L' := [(12, _), (14, _), (13, _), (1, _), (2, _), (3, _), (4, _), (5, _)]) (.cons rfl (.cons rfl (.cons rfl (.cons rfl (.cons rfl (.cons rfl (.cons rfl (.cons rfl .nil)))))))) ?_
                    refine wc_ret ?_
                    refine qs_then_ret ?_
                    refine fin1 (.inr rfl) rfl rfl ?_
                    exact ⟨_, rfl, by first | rfl | (rw [decide_eq_true (pages_obj (by assumption))]), hS3.pick [1] rfl⟩
                  · skip
                    refine wl_guard rfl rfl (decide_eq_false h12) ?_
                    refine wl_move rfl rfl ?_
                    refine wl_guard rfl rfl (decide_eq_false h12) ?_
                    refine wl_eqlNil Tryd.underlying26 rfl rfl rfl ?_
                    refine wl_pickF rfl (decide_eq_false h12) rfl rfl ?_
                    refine wl_nil ?_
                    refine qs_seq ?_
                    refine wc_sub (L' := [(63, _), (14, _), (13, _), (12, _), (1, _), (2, _), (3, _), (4, _), (5, _)]) (.cons rfl (.cons rfl (.cons rfl (.cons rfl (.cons rfl (.cons rfl (.cons rfl (.cons rfl (.cons rfl .nil))))))))) ?_
                    refine wc_condF rfl ?_
                    refine wc_skip ?_
                    refine qs_seq ?_
                    refine wc_seq ?_
                    refine wc_region ?_
                    refine wl_move rfl rfl ?_
                    have hC13 := hS3.split [0] [true, false] rfl; dsimp only [selF, pickA, nthA, List.cons_append, List.nil_append] at hC13
                    refine wl_call cal_19 rfl (clone_w hC13) rfl ?_
                    rintro e w13 ⟨_, rfl, q, rfl, hS13⟩; refine ⟨_, rfl, ?_⟩
                    replace hS13 := hS13.join rfl; dsimp only [List.dropLast, List.cons_append, List.nil_append] at hS13; clear hC13
                    clear hS3
                    have hI := world_ok 0 hS13 rfl
                    refine wl_assign rfl rfl ?_
                    refine wl_nil ?_
                    refine qs_seq ?_
                    refine wc_sub (L' := [(15, _), (14, _), (13, _), (12, _), (1, _), (2, _), (3, _), (4, _), (5, _)]) (.cons rfl (.cons rfl (.cons rfl (.cons rfl (.cons rfl (.cons rfl (.cons rfl (.cons rfl (.cons rfl .nil))))))))) ?_
                    refine wc_seq ?_
                    refine wc_seq ?_
                    refine wc_region ?_
                    refine wl_move rfl rfl ?_
                    refine wl_eqlNil Tryd.underlying26 rfl rfl rfl ?_
                    refine wl_nil ?_
                    refine qs_seq ?_
                    refine wc_condF rfl ?_
                    refine wc_skip ?_
                    refine qs_seq ?_
                    refine wc_seq ?_
                    refine wc_region ?_
                    refine wl_move rfl rfl ?_
                    refine wl_move rfl rfl ?_
                    refine wl_move rfl rfl ?_
                    refine wl_move rfl rfl ?_
                    refine wl_move rfl rfl ?_
                    refine wl_move rfl rfl ?_
                    have hC14 := hS13.split [1] [false, true, false] rfl; dsimp only [selF, pickA, nthA, List.cons_append, List.nil_append] at hC14
                    refine wl_call cal_20 rfl (copy_sp hC14 frm fi cn to at_ (by omega) (by omega) (by omega) (by omega)) rfl ?_
                    rintro e w14 ⟨_, rfl, rfl, hS14⟩; refine ⟨_, rfl, ?_⟩
                    replace hS14 := hS14.join rfl; dsimp only [List.dropLast, List.cons_append, List.nil_append] at hS14; clear hC14
                    clear hS13
                    refine wl_nil ?_
                    refine qs_seq ?_
                    refine wc_sub (L' := [(15, _), (14, _), (13, _), (12, _), (1, _), (2, _), (3, _), (4, _), (5, _)]) (.cons rfl (.cons rfl (.cons rfl (.cons rfl (.cons rfl (.cons rfl (.cons rfl (.cons rfl (.cons rfl .nil))))))))) ?_
                    refine wc_seq ?_
                    refine wc_seq ?_
                    refine wc_region ?_
                    refine wl_assign rfl rfl ?_
                    refine wl_nil ?_
                    refine qs_seq ?_
                    refine wc_block ?_
                    refine wc_loop (fun K0 E0 W0 => ∃ (i : Nat), K0 = 16384 - i ∧ E0 = [(1, strV frm), (2, intV fi), (3, intV cn), (4, strV to), (5, intV at_), (13, .bool true), (14, ptrV p 0), (15, ptrV q 0), (16, intV (i : Int))] ∧ Sat W0 [worldT p (copyS (playedW l) frm fi cn to at_), worldT q (playedW l), F] ∧ (i ≤ 16384)) (L0 := [(1, _), (2, _), (3, _), (4, _), (5, _), (13, _), (14, _), (15, _), (16, _)]) (16384 - 0) (.cons rfl (.cons rfl (.cons rfl (.cons rfl (.cons rfl (.cons rfl (.cons rfl (.cons rfl (.cons rfl .nil))))))))) ⟨0, rfl, rfl, hS14, by omega⟩ ?_
                    rintro _ _ w15 ⟨i, rfl, rfl, hS15, hi⟩
                    refine wc_seq ?_
                    refine wc_seq ?_
                    refine wc_region ?_
                    refine wl_move rfl rfl ?_
                    refine wl_lss rfl rfl rfl ?_
                    refine wl_nil ?_
                    refine qs_seq ?_
                    refine wc_condD rfl (fun h16 => ?_) (fun h16 => ?_)
                    · skip
                      have hpb := pages_byte (frm := frm) (to := to) (fi := fi) (cn := cn) (at_ := at_) hI (i := i) (by omega)
                      refine wc_skip ?_
                      refine qs_seq ?_
                      refine wc_seq ?_
                      refine wc_block ?_
                      refine wc_seq ?_
                      refine wc_region ?_
                      refine wl_move rfl rfl ?_
                      refine wl_quo rfl rfl (by omega) (by omega) (by omega) rfl ?_
                      refine wl_assign rfl rfl ?_
                      refine wl_nil ?_
                      refine qs_seq ?_
                      refine wc_sub (L' := [(17, _), (1, _), (2, _), (3, _), (4, _), (5, _), (13, _), (14, _), (15, _), (16, _)]) (.cons rfl (.cons rfl (.cons rfl (.cons rfl (.cons rfl (.cons rfl (.cons rfl (.cons rfl (.cons rfl (.cons rfl .nil)))))))))) ?_
                      refine wc_seq ?_
                      refine wc_region ?_
                      refine wl_move rfl rfl ?_
                      refine wl_move rfl rfl ?_
                      refine wl_move rfl rfl ?_
                      have hC17 := hS15.split [1] [false, true, false] rfl; dsimp only [selF, pickA, nthA, List.cons_append, List.nil_append] at hC17
                      refine wl_call cal_14 rfl (byte_sp hC17 to (i : Int)) rfl ?_
                      rintro e w17 ⟨_, rfl, rfl, hS17⟩; refine ⟨_, rfl, ?_⟩
                      replace hS17 := hS17.join rfl; dsimp only [List.dropLast, List.cons_append, List.nil_append] at hS17; clear hC17
                      clear hS15
                      refine wl_assign rfl rfl ?_
                      refine wl_nil ?_
                      refine qs_seq ?_
                      refine wc_sub (L' := [(18, _), (17, _), (1, _), (2, _), (3, _), (4, _), (5, _), (13, _), (14, _), (15, _), (16, _)]) (.cons rfl (.cons rfl (.cons rfl (.cons rfl (.cons rfl (.cons rfl (.cons rfl (.cons rfl (.cons rfl (.cons rfl (.cons rfl .nil))))))))))) ?_
                      refine wc_seq ?_
                      refine wc_seq ?_
                      refine wc_region ?_
                      refine wl_move rfl rfl ?_
                      refine wl_move rfl rfl ?_
                      refine wl_geq rfl rfl rfl ?_
                      refine wl_move rfl rfl ?_
                      refine wl_splitD 93 rfl (fun h18 => ?_) (fun h18 => ?_)
                      · skip
                        refine wl_guard rfl rfl (decide_eq_true h18) ?_
                        refine wl_move rfl rfl ?_
                        refine wl_guard rfl rfl (decide_eq_true h18) ?_
                        refine wl_move rfl rfl ?_
                        refine wl_guard rfl rfl (decide_eq_true h18) ?_
                        refine wl_move rfl rfl ?_
                        refine wl_guard rfl rfl (decide_eq_true h18) ?_
                        refine wl_add rfl rfl (by omega) (by omega) rfl ?_
                        refine wl_guard rfl rfl (decide_eq_true h18) ?_
                        refine wl_lss rfl rfl rfl ?_
                        refine wl_pickT rfl (decide_eq_true h18) rfl rfl ?_
                        refine wl_nil ?_
                        refine qs_seq ?_
                        refine wc_sub (L' := [(99, _), (18, _), (17, _), (1, _), (2, _), (3, _), (4, _), (5, _), (13, _), (14, _), (15, _), (16, _)]) (.cons rfl (.cons rfl (.cons rfl (.cons rfl (.cons rfl (.cons rfl (.cons rfl (.cons rfl (.cons rfl (.cons rfl (.cons rfl (.cons rfl .nil)))))))))))) ?_
                        refine wc_condD rfl (fun h19 => ?_) (fun h19 => ?_)
                        · skip
                          refine wc_seq ?_
                          refine wc_region ?_
                          refine wl_move rfl rfl ?_
                          refine wl_move rfl rfl ?_
                          refine wl_add rfl rfl (by omega) (by omega) rfl ?_
                          refine wl_move rfl rfl ?_
                          refine wl_sub' rfl rfl (by omega) (by omega) rfl ?_
                          refine wl_assign rfl rfl ?_
                          refine wl_nil ?_
                          refine qs_seq ?_
                          refine wc_sub (L' := [(19, _), (18, _), (1, _), (2, _), (3, _), (4, _), (5, _), (13, _), (14, _), (15, _), (16, _)]) (.cons rfl (.cons rfl (.cons rfl (.cons rfl (.cons rfl (.cons rfl (.cons rfl (.cons rfl (.cons rfl (.cons rfl (.cons rfl .nil))))))))))) ?_
                          refine wc_seq ?_
                          refine wc_region ?_
                          refine wl_assign rfl rfl ?_
                          refine wl_nil ?_
                          refine qs_seq ?_
                          refine wc_seq ?_
                          refine wc_region ?_
                          refine wl_move rfl rfl ?_
                          refine wl_geq rfl rfl rfl ?_
                          refine wl_move rfl rfl ?_
                          refine wl_splitD 107 rfl (fun h20 => ?_) (fun h20 => ?_)
                          · skip
                            refine wl_guard rfl rfl (decide_eq_true h20) ?_
                            refine wl_move rfl rfl ?_
                            refine wl_guard rfl rfl (decide_eq_true h20) ?_
                            refine wl_lss rfl rfl rfl ?_
                            refine wl_pickT rfl (decide_eq_true h20) rfl rfl ?_
                            refine wl_nil ?_
                            refine qs_seq ?_
                            refine wc_sub (L' := [(110, _), (18, _), (19, _), (1, _), (2, _), (3, _), (4, _), (5, _), (13, _), (14, _), (15, _), (16, _)]) (.cons rfl (.cons rfl (.cons rfl (.cons rfl (.cons rfl (.cons rfl (.cons rfl (.cons rfl (.cons rfl (.cons rfl (.cons rfl (.cons rfl .nil)))))))))))) ?_
                            refine wc_condD rfl (fun h21 => ?_) (fun h21 => ?_)
                            · skip
                              refine wc_region ?_
                              refine wl_move rfl rfl ?_
                              refine wl_move rfl rfl ?_
                              refine wl_move rfl rfl ?_
                              refine wl_mul rfl rfl (by omega) (by omega) rfl ?_
                              refine wl_move rfl rfl ?_
                              refine wl_rem rfl rfl (by omega) (by omega) rfl ?_
                              refine wl_add rfl rfl (by omega) (by omega) rfl ?_
                              have hC22 := hS17.split [0] [true, false, false] rfl; dsimp only [selF, pickA, nthA, List.cons_append, List.nil_append] at hC22
                              refine wl_call cal_14 rfl (byte_sp hC22 frm (64 * (fi + (i : Int) / 64 - at_) + (i : Int) % 64)) rfl ?_
                              rintro e w22 ⟨_, rfl, rfl, hS22⟩; refine ⟨_, rfl, ?_⟩
                              replace hS22 := hS22.join rfl; dsimp only [List.dropLast, List.cons_append, List.nil_append] at hS22; clear hC22
                              clear hS17
                              refine wl_assign rfl rfl ?_
                              refine wl_nil ?_
                              refine qs_seq ?_
                              refine wc_sub (L' := [(18, _), (1, _), (2, _), (3, _), (4, _), (5, _), (13, _), (14, _), (15, _), (16, _)]) (.cons rfl (.cons rfl (.cons rfl (.cons rfl (.cons rfl (.cons rfl (.cons rfl (.cons rfl (.cons rfl (.cons rfl .nil)))))))))) ?_
                              refine wc_seq ?_
                              refine wc_region ?_
                              refine wl_move rfl rfl ?_
                              refine wl_move rfl rfl ?_
                              refine wl_move rfl rfl ?_
                              have hC23 := hS22.split [1] [false, true, false] rfl; dsimp only [selF, pickA, nthA, List.cons_append, List.nil_append] at hC23
                              refine wl_call cal_14 rfl (byte_sp hC23 to (i : Int)) rfl ?_
                              rintro e w23 ⟨_, rfl, rfl, hS23⟩; refine ⟨_, rfl, ?_⟩
                              replace hS23 := hS23.join rfl; dsimp only [List.dropLast, List.cons_append, List.nil_append] at hS23; clear hC23
                              clear hS22
                              refine wl_move rfl rfl ?_
                              refine wl_neq rfl rfl rfl ?_
                              refine wl_nil ?_
                              refine qs_seq ?_
                              refine wc_sub (L' := [(124, _), (1, _), (2, _), (3, _), (4, _), (5, _), (13, _), (14, _), (15, _), (16, _)]) (.cons rfl (.cons rfl (.cons rfl (.cons rfl (.cons rfl (.cons rfl (.cons rfl (.cons rfl (.cons rfl (.cons rfl .nil)))))))))) ?_
                              refine wc_condD rfl (fun h24 => ?_) (fun h24 => ?_)
                              · skip
                                exact absurd (by first | (rw [hpb, if_pos (by omega), if_pos (by omega)]; done) | (rw [hpb, if_pos (by omega), if_neg (by omega)]; rfl) | (rw [hpb, if_neg (by omega)]; done)) h24
                              · skip
                                refine wc_skip ?_
                                refine qs_block_normal ?_
                                refine qs_seq ?_
                                refine wc_region ?_
                                refine wl_move rfl rfl ?_
                                refine wl_add rfl rfl (by omega) (by omega) rfl ?_
                                refine wl_assign rfl rfl ?_
                                refine wl_nil ?_
                                exact qs_round (L1 := [(1, _), (2, _), (3, _), (4, _), (5, _), (13, _), (14, _), (15, _), (16, intV ((i + 1 : Nat) : Int))]) (.cons rfl (.cons rfl (.cons rfl (.cons rfl (.cons rfl (.cons rfl (.cons rfl (.cons rfl (.cons rfl .nil))))))))) (k1 := 16384 - (i + 1)) (by omega) ⟨i + 1, rfl, rfl, hS23.pick [0, 1, 2] rfl, by omega⟩
                            · skip
                              refine wc_skip ?_
                              refine qs_seq ?_
                              refine wc_seq ?_
                              refine wc_region ?_
                              refine wl_move rfl rfl ?_
                              refine wl_move rfl rfl ?_
                              refine wl_move rfl rfl ?_
                              have hC25 := hS17.split [1] [false, true, false] rfl; dsimp only [selF, pickA, nthA, List.cons_append, List.nil_append] at hC25
                              refine wl_call cal_14 rfl (byte_sp hC25 to (i : Int)) rfl ?_
                              rintro e w25 ⟨_, rfl, rfl, hS25⟩; refine ⟨_, rfl, ?_⟩
                              replace hS25 := hS25.join rfl; dsimp only [List.dropLast, List.cons_append, List.nil_append] at hS25; clear hC25
                              clear hS17
                              refine wl_move rfl rfl ?_
                              refine wl_neq rfl rfl rfl ?_
                              refine wl_nil ?_
                              refine qs_seq ?_
                              refine wc_sub (L' := [(124, _), (1, _), (2, _), (3, _), (4, _), (5, _), (13, _), (14, _), (15, _), (16, _)]) (.cons rfl (.cons rfl (.cons rfl (.cons rfl (.cons rfl (.cons rfl (.cons rfl (.cons rfl (.cons rfl (.cons rfl .nil)))))))))) ?_
                              refine wc_condD rfl (fun h26 => ?_) (fun h26 => ?_)
                              · skip
                                exact absurd (by first | (rw [hpb, if_pos (by omega), if_pos (by omega)]; done) | (rw [hpb, if_pos (by omega), if_neg (by omega)]; rfl) | (rw [hpb, if_neg (by omega)]; done)) h26
                              · skip
                                refine wc_skip ?_
                                refine qs_block_normal ?_
                                refine qs_seq ?_
                                refine wc_region ?_
                                refine wl_move rfl rfl ?_
                                refine wl_add rfl rfl (by omega) (by omega) rfl ?_
                                refine wl_assign rfl rfl ?_
                                refine wl_nil ?_
                                exact qs_round (L1 := [(1, _), (2, _), (3, _), (4, _), (5, _), (13, _), (14, _), (15, _), (16, intV ((i + 1 : Nat) : Int))]) (.cons rfl (.cons rfl (.cons rfl (.cons rfl (.cons rfl (.cons rfl (.cons rfl (.cons rfl (.cons rfl .nil))))))))) (k1 := 16384 - (i + 1)) (by omega) ⟨i + 1, rfl, rfl, hS25.pick [0, 1, 2] rfl, by omega⟩
                          · skip
                            refine wl_unwanted rfl rfl (decide_eq_false h20) rfl ?_
                            refine wl_unwanted rfl rfl (decide_eq_false h20) rfl ?_
                            refine wl_pickF rfl (decide_eq_false h20) rfl rfl ?_
                            refine wl_nil ?_
                            refine qs_seq ?_
                            refine wc_sub (L' := [(110, _), (18, _), (19, _), (1, _), (2, _), (3, _), (4, _), (5, _), (13, _), (14, _), (15, _), (16, _)]) (.cons rfl (.cons rfl (.cons rfl (.cons rfl (.cons rfl (.cons rfl (.cons rfl (.cons rfl (.cons rfl (.cons rfl (.cons rfl (.cons rfl .nil)))))))))))) ?_
                            refine wc_condF rfl ?_
                            refine wc_skip ?_
                            refine qs_seq ?_
                            refine wc_seq ?_
                            refine wc_region ?_
                            refine wl_move rfl rfl ?_
                            refine wl_move rfl rfl ?_
                            refine wl_move rfl rfl ?_
                            have hC27 := hS17.split [1] [false, true, false] rfl; dsimp only [selF, pickA, nthA, List.cons_append, List.nil_append] at hC27
                            refine wl_call cal_14 rfl (byte_sp hC27 to (i : Int)) rfl ?_
                            rintro e w27 ⟨_, rfl, rfl, hS27⟩; refine ⟨_, rfl, ?_⟩
                            replace hS27 := hS27.join rfl; dsimp only [List.dropLast, List.cons_append, List.nil_append] at hS27; clear hC27
                            clear hS17
                            refine wl_move rfl rfl ?_
                            refine wl_neq rfl rfl rfl ?_
                            refine wl_nil ?_
                            refine qs_seq ?_
                            refine wc_sub (L' := [(124, _), (1, _), (2, _), (3, _), (4, _), (5, _), (13, _), (14, _), (15, _), (16, _)]) (.cons rfl (.cons rfl (.cons rfl (.cons rfl (.cons rfl (.cons rfl (.cons rfl (.cons rfl (.cons rfl (.cons rfl .nil)))))))))) ?_
                            refine wc_condD rfl (fun h28 => ?_) (fun h28 => ?_)
                            · skip
                              exact absurd (by first | (rw [hpb, if_pos (by omega), if_pos (by omega)]; done) | (rw [hpb, if_pos (by omega), if_neg (by omega)]; rfl) | (rw [hpb, if_neg (by omega)]; done)) h28
                            · skip
                              refine wc_skip ?_
                              refine qs_block_normal ?_
                              refine qs_seq ?_
                              refine wc_region ?_
                              refine wl_move rfl rfl ?_
                              refine wl_add rfl rfl (by omega) (by omega) rfl ?_
                              refine wl_assign rfl rfl ?_
                              refine wl_nil ?_
                              exact qs_round (L1 := [(1, _), (2, _), (3, _), (4, _), (5, _), (13, _), (14, _), (15, _), (16, intV ((i + 1 : Nat) : Int))]) (.cons rfl (.cons rfl (.cons rfl (.cons rfl (.cons rfl (.cons rfl (.cons rfl (.cons rfl (.cons rfl .nil))))))))) (k1 := 16384 - (i + 1)) (by omega) ⟨i + 1, rfl, rfl, hS27.pick [0, 1, 2] rfl, by omega⟩
                        · skip
                          refine wc_skip ?_
                          refine qs_seq ?_
                          refine wc_seq ?_
                          refine wc_region ?_
                          refine wl_move rfl rfl ?_
                          refine wl_move rfl rfl ?_
                          refine wl_move rfl rfl ?_
                          have hC29 := hS17.split [1] [false, true, false] rfl; dsimp only [selF, pickA, nthA, List.cons_append, List.nil_append] at hC29
                          refine wl_call cal_14 rfl (byte_sp hC29 to (i : Int)) rfl ?_
                          rintro e w29 ⟨_, rfl, rfl, hS29⟩; refine ⟨_, rfl, ?_⟩
                          replace hS29 := hS29.join rfl; dsimp only [List.dropLast, List.cons_append, List.nil_append] at hS29; clear hC29
                          clear hS17
                          refine wl_move rfl rfl ?_
                          refine wl_neq rfl rfl rfl ?_
                          refine wl_nil ?_
                          refine qs_seq ?_
                          refine wc_sub (L' := [(124, _), (1, _), (2, _), (3, _), (4, _), (5, _), (13, _), (14, _), (15, _), (16, _)]) (.cons rfl (.cons rfl (.cons rfl (.cons rfl (.cons rfl (.cons rfl (.cons rfl (.cons rfl (.cons rfl (.cons rfl .nil)))))))))) ?_
                          refine wc_condD rfl (fun h30 => ?_) (fun h30 => ?_)
                          · skip
                            exact absurd (by first | (rw [hpb, if_pos (by omega), if_pos (by omega)]; done) | (rw [hpb, if_pos (by omega), if_neg (by omega)]; rfl) | (rw [hpb, if_neg (by omega)]; done)) h30
                          · skip
                            refine wc_skip ?_
                            refine qs_block_normal ?_
                            refine qs_seq ?_
                            refine wc_region ?_
                            refine wl_move rfl rfl ?_
                            refine wl_add rfl rfl (by omega) (by omega) rfl ?_
                            refine wl_assign rfl rfl ?_
                            refine wl_nil ?_
                            exact qs_round (L1 := [(1, _), (2, _), (3, _), (4, _), (5, _), (13, _), (14, _), (15, _), (16, intV ((i + 1 : Nat) : Int))]) (.cons rfl (.cons rfl (.cons rfl (.cons rfl (.cons rfl (.cons rfl (.cons rfl (.cons rfl (.cons rfl .nil))))))))) (k1 := 16384 - (i + 1)) (by omega) ⟨i + 1, rfl, rfl, hS29.pick [0, 1, 2] rfl, by omega⟩
                      · skip
                        refine wl_unwanted rfl rfl (decide_eq_false h18) rfl ?_
                        refine wl_unwanted rfl rfl (decide_eq_false h18) rfl ?_
                        refine wl_unwanted rfl rfl (decide_eq_false h18) rfl ?_
                        refine wl_unwanted rfl rfl (decide_eq_false h18) rfl ?_
                        refine wl_unwanted rfl rfl (decide_eq_false h18) rfl ?_
                        refine wl_pickF rfl (decide_eq_false h18) rfl rfl ?_
                        refine wl_nil ?_
                        refine qs_seq ?_
                        refine wc_sub (L' := [(99, _), (18, _), (17, _), (1, _), (2, _), (3, _), (4, _), (5, _), (13, _), (14, _), (15, _), (16, _)]) (.cons rfl (.cons rfl (.cons rfl (.cons rfl (.cons rfl (.cons rfl (.cons rfl (.cons rfl (.cons rfl (.cons rfl (.cons rfl (.cons rfl .nil)))))))))))) ?_
                        refine wc_condF rfl ?_
                        refine wc_skip ?_
                        refine qs_seq ?_
                        refine wc_seq ?_
                        refine wc_region ?_
                        refine wl_move rfl rfl ?_
                        refine wl_move rfl rfl ?_
                        refine wl_move rfl rfl ?_
                        have hC31 := hS17.split [1] [false, true, false] rfl; dsimp only [selF, pickA, nthA, List.cons_append, List.nil_append] at hC31
                        refine wl_call cal_14 rfl (byte_sp hC31 to (i : Int)) rfl ?_
                        rintro e w31 ⟨_, rfl, rfl, hS31⟩; refine ⟨_, rfl, ?_⟩
                        replace hS31 := hS31.join rfl; dsimp only [List.dropLast, List.cons_append, List.nil_append] at hS31; clear hC31
                        clear hS17
                        refine wl_move rfl rfl ?_
                        refine wl_neq rfl rfl rfl ?_
                        refine wl_nil ?_
                        refine qs_seq ?_
                        refine wc_sub (L' := [(124, _), (1, _), (2, _), (3, _), (4, _), (5, _), (13, _), (14, _), (15, _), (16, _)]) (.cons rfl (.cons rfl (.cons rfl (.cons rfl (.cons rfl (.cons rfl (.cons rfl (.cons rfl (.cons rfl (.cons rfl .nil)))))))))) ?_
                        refine wc_condD rfl (fun h32 => ?_) (fun h32 => ?_)
                        · skip
                          exact absurd (by first | (rw [hpb, if_pos (by omega), if_pos (by omega)]; done) | (rw [hpb, if_pos (by omega), if_neg (by omega)]; rfl) | (rw [hpb, if_neg (by omega)]; done)) h32
                        · skip
                          refine wc_skip ?_
                          refine qs_block_normal ?_
                          refine qs_seq ?_
                          refine wc_region ?_
                          refine wl_move rfl rfl ?_
                          refine wl_add rfl rfl (by omega) (by omega) rfl ?_
                          refine wl_assign rfl rfl ?_
                          refine wl_nil ?_
                          exact qs_round (L1 := [(1, _), (2, _), (3, _), (4, _), (5, _), (13, _), (14, _), (15, _), (16, intV ((i + 1 : Nat) : Int))]) (.cons rfl (.cons rfl (.cons rfl (.cons rfl (.cons rfl (.cons rfl (.cons rfl (.cons rfl (.cons rfl .nil))))))))) (k1 := 16384 - (i + 1)) (by omega) ⟨i + 1, rfl, rfl, hS31.pick [0, 1, 2] rfl, by omega⟩
                    · skip
                      refine wc_exit ?_
                      refine qs_then_exit ?_
                      refine qs_then_exit ?_
                      refine qs_block_exit ?_
                      refine qs_seq ?_
                      refine wc_sub (L' := [(1, _), (4, _), (13, _), (14, _), (15, _)]) (.cons rfl (.cons rfl (.cons rfl (.cons rfl (.cons rfl .nil))))) ?_
                      refine wc_seq ?_
                      refine wc_region ?_
                      refine wl_move rfl rfl ?_
                      refine wl_move rfl rfl ?_
                      refine wl_guard rfl rfl rfl ?_
                      refine wl_move rfl rfl ?_
                      refine wl_guard rfl rfl rfl ?_
                      refine wl_move rfl rfl ?_
                      refine wl_guard rfl rfl rfl ?_
                      refine wl_eqlS rfl rfl rfl ?_
                      refine wl_guard rfl rfl rfl ?_
                      refine wl_move rfl rfl ?_
                      refine wl_splitD 130 rfl (fun h33 => ?_) (fun h33 => ?_)
                      · skip
                        refine wl_unwanted rfl rfl (decide_eq_true h33) rfl ?_
                        refine wl_unwanted rfl rfl (decide_eq_true h33) rfl ?_
                        refine wl_unwanted rfl rfl (decide_eq_true h33) rfl ?_
                        refine wl_unwanted rfl rfl (decide_eq_true h33) rfl ?_
                        refine wl_unwanted rfl rfl (decide_eq_true h33) rfl ?_
                        refine wl_unwanted rfl rfl (decide_eq_true h33) rfl ?_
                        refine wl_unwanted rfl rfl (decide_eq_true h33) rfl ?_
                        refine wl_guard rfl rfl rfl ?_
                        refine wl_pickT rfl (decide_eq_true h33) rfl rfl ?_
                        refine wl_pickT rfl rfl rfl rfl ?_
                        refine wl_assign rfl rfl ?_
                        refine wl_nil ?_
                        refine qs_seq ?_
                        refine wc_sub (L' := [(12, _)]) (.cons rfl .nil) ?_
                        refine wc_ret ?_
                        refine fin1 (.inr rfl) rfl rfl ?_
                        exact ⟨_, rfl, by first | rfl | (rw [decide_eq_true (pages_obj (by assumption))]), hS15.pick [2] rfl⟩
                      · skip
                        refine wl_guard rfl rfl (decide_eq_false h33) ?_
                        refine wl_move rfl rfl ?_
                        refine wl_guard rfl rfl (decide_eq_false h33) ?_
                        refine wl_move rfl rfl ?_
                        refine wl_guard rfl rfl (decide_eq_false h33) ?_
                        have hC34 := hS15.split [0] [true, false, false] rfl; dsimp only [selF, pickA, nthA, List.cons_append, List.nil_append] at hC34
                        refine wl_call cal_16 rfl (object_sp hC34 frm) rfl ?_
                        rintro e w34 ⟨_, rfl, rfl, hS34⟩; refine ⟨_, rfl, ?_⟩
                        replace hS34 := hS34.join rfl; dsimp only [List.dropLast, List.cons_append, List.nil_append] at hS34; clear hC34
                        clear hS15
                        refine wl_guard rfl rfl (decide_eq_false h33) ?_
                        refine wl_move rfl rfl ?_
                        refine wl_guard rfl rfl (decide_eq_false h33) ?_
                        refine wl_move rfl rfl ?_
                        refine wl_guard rfl rfl (decide_eq_false h33) ?_
                        have hC35 := hS34.split [1] [false, true, false] rfl; dsimp only [selF, pickA, nthA, List.cons_append, List.nil_append] at hC35
                        refine wl_call cal_16 rfl (object_sp hC35 frm) rfl ?_
                        rintro e w35 ⟨_, rfl, rfl, hS35⟩; refine ⟨_, rfl, ?_⟩
                        replace hS35 := hS35.join rfl; dsimp only [List.dropLast, List.cons_append, List.nil_append] at hS35; clear hC35
                        clear hS34
                        refine wl_guard rfl rfl (decide_eq_false h33) ?_
                        refine wl_eqlS rfl rfl rfl ?_
                        refine wl_guard rfl rfl rfl ?_
                        refine wl_pickF rfl (decide_eq_false h33) rfl rfl ?_
                        refine wl_pickT rfl rfl rfl rfl ?_
                        refine wl_assign rfl rfl ?_
                        refine wl_nil ?_
                        refine qs_seq ?_
                        refine wc_sub (L' := [(12, _)]) (.cons rfl .nil) ?_
                        refine wc_ret ?_
                        refine fin1 (.inr rfl) rfl rfl ?_
                        exact ⟨_, rfl, by first | rfl | (rw [decide_eq_true (pages_obj (by assumption))]), hS35.pick [2] rfl⟩

end Go.Proofs.YtieelilkkpcmdaaDoor
