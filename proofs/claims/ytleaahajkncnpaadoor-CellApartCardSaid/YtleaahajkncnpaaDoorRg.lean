/- the reference of layer 3: comes -/
import Derived.Test.YtleaahajkncnpaaDoorRe
namespace Go.Proofs.YtleaahajkncnpaaDoor
open Go.RowKit M
set_option linter.unusedVariables false
def comesD (D : DS) (f a : Int) (s : Bytes) : DS := if endsB D then crashD (writeD (endsD D) f a s) D.keep else endsD D
theorem fit_write {D : DS} {f a : Int} {s : Bytes} (hd : D.down = false) : (0 ≤ f ∧ f ≤ 15 ∧ fitB a s = true) ↔ writeE D f a s = 0 := by
  simp only [writeE, mayE, hd, fitB]
  by_cases h1 : f < 0 ∨ 16 ≤ f
  · simp [h1]; omega
  · simp only [Bool.false_eq_true, if_false, h1]
    by_cases h2 : a < 0
    · simp [h2]; omega
    · by_cases h3 : 16777216 < a ∨ 16777216 - a < s.length
      · simp [h2, h3]; omega
      · simp [h2, h3]; omega
theorem comes_off {w : World} {p : Nat} {kp fv qv : Value} {D : DS} {l : List (Int × Bytes × Bytes)} {F : Th} {f a : Int} {s : Bytes} (h : D.down = true ∨ D.armed = 0) (hI : RInv l D) (hS : Sat w [blkT p (cellsR ⟨fv, qv, l⟩ kp D), rowT rfC fv l, rowT scC qv D.Q, F]) : Sat w [refT p kp (comesD D f a s), F] := by
  have e1 : endsB D = false := by unfold endsB; rcases h with h | h <;> simp [h]
  have e2 : endsD D = D := by unfold endsD; rw [if_pos h]
  rw [comesD, e1, e2]; exact refT_shut ⟨fv, qv, l⟩ hI hS
theorem comes_less {w : World} {p : Nat} {kp fv qv : Value} {D : DS} {l : List (Int × Bytes × Bytes)} {F : Th} {f a : Int} {s : Bytes} (hd : D.down = false) (hI : RInv l D) (h : 0 < D.armed - 1) (hS : Sat w [blkT p [fv, qv, intV D.lost, .bool D.down, intV (D.armed - 1), kp], rowT rfC fv l, rowT scC qv D.Q, F]) : Sat w [refT p kp (comesD D f a s), F] := by
  have e1 : endsB D = false := by unfold endsB; simp; omega
  have e2 : endsD D = { D with armed := D.armed - 1 } := by unfold endsD; rw [if_neg (by simp [hd]; omega)]
  rw [comesD, e1, e2]; exact refT_shut ⟨fv, qv, l⟩ (hI.upd rfl { hI.inv with armed := ⟨by simp; omega, by have := hI.inv.armed; simp; omega⟩ }) hS
theorem ends_last {D : DS} (hd : D.down = false) (h0 : D.armed ≠ 0) (h1 : ¬ 0 < D.armed - 1) (hi : 0 ≤ D.armed) : endsB D = true ∧ endsD D = { D with armed := D.armed - 1 } := by
  have : D.armed = 1 := by omega
  exact ⟨by simp [endsB, hd, this], by unfold endsD; rw [if_neg (by simp [hd]; omega)]⟩
set_option maxRecDepth 100000 in
theorem comesR_sp {w : World} {p : Nat} {kp : Value} {D : DS} {F : Th} (hS : Sat w [refT p kp D, F]) (hK : Ent F (RdL inC kp D.keep)) (f at_ : Int) (s : Bytes) (hs : s.length ≤ 1099511627776) :
    Calls Tryd.prog 36 #[ptrV p 0, intV f, intV at_, strV s] w (Ret fun v w' => v = .tuple #[] ∧ Sat w' [refT p kp (comesD D f at_ s), F]) := by
  refine calls_enter Tryd.func36 rfl Tryd.ntmps36 rfl ?_
  obtain ⟨⟨fv, qv, l⟩, hI, hS⟩ := refT_open (hS.pull 0 rfl); dsimp only [List.eraseIdx] at hI hS
  refine wc_seq ?_
  refine wc_seq ?_
  refine wc_region ?_
  refine wl_move rfl rfl ?_
  refine wl_nilCheck rfl rfl ?_
  refine wl_fieldAddr rfl fo_65_3 rfl ?_
  refine wl_load rfl ag_4 (by first | assumption | exact hS.cell 0 rfl rfl) rfl ?_
  refine wl_move rfl rfl ?_
  refine wl_split 12 rfl (fun h1 => ?_) (fun h1 => ?_)
  · skip
    refine wl_unwanted rfl rfl h1 rfl ?_
    refine wl_unwanted rfl rfl h1 rfl ?_
    refine wl_unwanted rfl rfl h1 rfl ?_
    refine wl_unwanted rfl rfl h1 rfl ?_
    refine wl_unwanted rfl rfl h1 rfl ?_
    refine wl_pickT rfl h1 rfl rfl ?_
    refine wl_nil ?_
    refine qs_seq ?_
    refine wc_sub (L' := [(18, _), (0, _), (1, _), (2, _), (3, _)]) (.cons rfl (.cons rfl (.cons rfl (.cons rfl (.cons rfl .nil))))) ?_
    refine wc_condT rfl ?_
    refine wc_ret ?_
    refine qs_then_ret ?_
    refine fin0 (.inr rfl) rfl ?_
    exact ⟨_, rfl, rfl, comes_off (by simp_all) hI hS⟩
  · skip
    refine wl_guard rfl rfl h1 ?_
    refine wl_move rfl rfl ?_
    refine wl_guard rfl rfl h1 ?_
    refine wl_nilCheck rfl rfl ?_
    refine wl_guard rfl rfl h1 ?_
    refine wl_fieldAddr rfl fo_65_4 rfl ?_
    refine wl_guard rfl rfl h1 ?_
    refine wl_load rfl ag_3 (by first | assumption | exact hS.cell 0 rfl rfl) rfl ?_
    refine wl_guard rfl rfl h1 ?_
    refine wl_eql rfl rfl rfl ?_
    refine wl_pickF rfl h1 rfl rfl ?_
    refine wl_nil ?_
    refine qs_seq ?_
    refine wc_sub (L' := [(18, _), (0, _), (1, _), (2, _), (3, _)]) (.cons rfl (.cons rfl (.cons rfl (.cons rfl (.cons rfl .nil))))) ?_
    refine wc_condD rfl (fun h2 => ?_) (fun h2 => ?_)
    · skip
      refine wc_ret ?_
      refine qs_then_ret ?_
      refine fin0 (.inr rfl) rfl ?_
      exact ⟨_, rfl, rfl, comes_off (by simp_all) hI hS⟩
    · skip
      have hdn : D.down = false := by simp_all
      have har : D.armed ≠ 0 := by simp_all
      have harm := hI.inv.armed
      refine wc_skip ?_
      refine qs_seq ?_
      refine wc_seq ?_
      refine wc_region ?_
      refine wl_move rfl rfl ?_
      refine wl_nilCheck rfl rfl ?_
      refine wl_fieldAddr rfl fo_65_4 rfl ?_
      refine wl_load rfl ag_3 (by first | assumption | exact hS.cell 0 rfl rfl) rfl ?_
      refine wl_sub' rfl rfl (by omega) (by omega) rfl ?_
      refine wl_nilCheck rfl rfl ?_
      refine wl_fieldAddr rfl fo_65_4 rfl ?_
      first | (refine wl_store hS rfl rfl sz_3 (by first | rfl | assumption | exact hS.own_one 1 rfl | exact hS.own_one 2 rfl) (i := 0) rfl (by first | decide | exact Nat.le_of_ble_eq_true rfl | (simp; done) | omega) ?_)
      intro w3 hS4; dsimp only [List.set] at hS4
      refine wl_nil ?_
      refine qs_seq ?_
      refine wc_sub (L' := [(0, _), (1, _), (2, _), (3, _)]) (.cons rfl (.cons rfl (.cons rfl (.cons rfl .nil)))) ?_
      refine wc_seq ?_
      refine wc_seq ?_
      refine wc_region ?_
      refine wl_move rfl rfl ?_
      refine wl_nilCheck rfl rfl ?_
      refine wl_fieldAddr rfl fo_65_4 rfl ?_
      refine wl_load rfl ag_3 (by first | assumption | exact hS4.cell 0 rfl rfl) rfl ?_
      refine wl_gtr rfl rfl rfl ?_
      refine wl_nil ?_
      refine qs_seq ?_
      refine wc_condD rfl (fun h5 => ?_) (fun h5 => ?_)
      · skip
        refine wc_ret ?_
        refine qs_then_ret ?_
        refine fin0 (.inr rfl) rfl ?_
        exact ⟨_, rfl, rfl, comes_less hdn hI (by omega) hS4⟩
      · skip
        obtain ⟨hb, he⟩ := ends_last hdn har (by omega) harm.1
        have hI2 : RInv l (endsD D) := by rw [he]; exact hI.upd rfl { hI.inv with armed := ⟨by simp; omega, by simp; omega⟩ }
        have hdn2 : (endsD D).down = false := by rw [he]; exact hdn
        refine wc_skip ?_
        refine qs_seq ?_
        refine wc_mid (fun E0 W0 => E0 = [(0, ptrV p 0)] ∧ Sat W0 [refT p kp (writeD (endsD D) f at_ s), F]) ?_ ?_
        · skip
          refine wc_seq ?_
          have hS4' : Sat w3 [refT p kp (endsD D), F] := by rw [he]; rw [he] at hI2; exact refT_shut ⟨fv, qv, l⟩ hI2 hS4
          replace hS4 := hS4'; clear hS4'
          refine wc_region ?_
          refine wl_move rfl rfl ?_
          refine wl_geq rfl rfl rfl ?_
          refine wl_move rfl rfl ?_
          refine wl_splitD 33 rfl (fun h7 => ?_) (fun h7 => ?_)
          · skip
            refine wl_guard rfl rfl (decide_eq_true h7) ?_
            refine wl_move rfl rfl ?_
            refine wl_guard rfl rfl (decide_eq_true h7) ?_
            refine wl_leq rfl rfl rfl ?_
            refine wl_pickT rfl (decide_eq_true h7) rfl rfl ?_
            refine wl_move rfl rfl ?_
            refine wl_splitD 37 rfl (fun h8 => ?_) (fun h8 => ?_)
            · skip
              refine wl_guard rfl rfl (decide_eq_true h8) ?_
              refine wl_move rfl rfl ?_
              refine wl_guard rfl rfl (decide_eq_true h8) ?_
              refine wl_move rfl rfl ?_
              refine wl_guard rfl rfl (decide_eq_true h8) ?_
              have hC9 := hS4.split [] [false, false] rfl; dsimp only [selF, pickA, nthA, List.cons_append, List.nil_append] at hC9
              refine wl_call cal_38 rfl (fitsR_sp hC9 at_ s hs) rfl ?_
              rintro e w9 ⟨_, rfl, rfl, hS9⟩; refine ⟨_, rfl, ?_⟩
              replace hS9 := hS9.join rfl; dsimp only [List.dropLast, List.cons_append, List.nil_append] at hS9; clear hC9
              clear hS4
              refine wl_pickT rfl (decide_eq_true h8) rfl rfl ?_
              refine wl_nil ?_
              refine qs_seq ?_
              refine wc_sub (L' := [(41, _), (0, _), (1, _), (2, _), (3, _)]) (.cons rfl (.cons rfl (.cons rfl (.cons rfl (.cons rfl .nil))))) ?_
              refine wc_cond rfl (fun h10 => ?_) (fun h10 => ?_)
              · skip
                have hfb : fitB at_ s = true := by simp_all
                refine wc_region ?_
                refine wl_move rfl rfl ?_
                refine wl_move rfl rfl ?_
                refine wl_move rfl rfl ?_
                refine wl_move rfl rfl ?_
                have hC11 := hS9.split [0] [true, false] rfl; dsimp only [selF, pickA, nthA, List.cons_append, List.nil_append] at hC11
                refine wl_call cal_39 rfl (addR_sp hC11 f at_ s (by omega) (by simp only [fitB, decide_eq_true_eq] at hfb; omega) (by simp only [fitB, decide_eq_true_eq] at hfb; omega)) rfl ?_
                rintro e w11 ⟨_, rfl, rfl, hS11⟩; refine ⟨_, rfl, ?_⟩
                replace hS11 := hS11.join rfl; dsimp only [List.dropLast, List.cons_append, List.nil_append] at hS11; clear hC11
                clear hS9
                refine wl_nil ?_
                exact qs_mid (.cons rfl .nil) ⟨rfl, by rw [writeD, if_pos ((fit_write hdn2).1 ⟨by omega, by omega, hfb⟩)]; exact hS11⟩
              · skip
                refine wc_skip ?_
                exact qs_mid (.cons rfl .nil) ⟨rfl, by rw [writeD, if_neg (fun q => by have := (fit_write hdn2).2 q; simp_all <;> omega)]; exact hS9⟩
            · skip
              refine wl_unwanted rfl rfl (decide_eq_false h8) rfl ?_
              refine wl_unwanted rfl rfl (decide_eq_false h8) rfl ?_
              refine wl_unwanted rfl rfl (decide_eq_false h8) rfl ?_
              refine wl_pickF rfl (decide_eq_false h8) rfl rfl ?_
              refine wl_nil ?_
              refine qs_seq ?_
              refine wc_sub (L' := [(41, _), (0, _), (1, _), (2, _), (3, _)]) (.cons rfl (.cons rfl (.cons rfl (.cons rfl (.cons rfl .nil))))) ?_
              refine wc_condF rfl ?_
              refine wc_skip ?_
              exact qs_mid (.cons rfl .nil) ⟨rfl, by rw [writeD, if_neg (fun q => by have := (fit_write hdn2).2 q; simp_all <;> omega)]; exact hS4⟩
          · skip
            refine wl_unwanted rfl rfl (decide_eq_false h7) rfl ?_
            refine wl_unwanted rfl rfl (decide_eq_false h7) rfl ?_
            refine wl_pickF rfl (decide_eq_false h7) rfl rfl ?_
            refine wl_move rfl rfl ?_
            refine wl_unwanted rfl rfl rfl rfl ?_
            refine wl_unwanted rfl rfl rfl rfl ?_
            refine wl_unwanted rfl rfl rfl rfl ?_
            refine wl_pickF rfl rfl rfl rfl ?_
            refine wl_nil ?_
            refine qs_seq ?_
            refine wc_sub (L' := [(41, _), (0, _), (1, _), (2, _), (3, _)]) (.cons rfl (.cons rfl (.cons rfl (.cons rfl (.cons rfl .nil))))) ?_
            refine wc_condF rfl ?_
            refine wc_skip ?_
            exact qs_mid (.cons rfl .nil) ⟨rfl, by rw [writeD, if_neg (fun q => by have := (fit_write hdn2).2 q; simp_all <;> omega)]; exact hS4⟩
        rintro _ w6 ⟨rfl, hS6⟩
        obtain ⟨⟨fv, qv, l⟩, hI, hS6⟩ := refT_open (hS6.pull 0 rfl); dsimp only [List.eraseIdx] at hI hS6
        refine wc_region ?_
        refine wl_move rfl rfl ?_
        refine wl_move rfl rfl ?_
        refine wl_nilCheck rfl rfl ?_
        refine wl_fieldAddr rfl fo_65_5 rfl ?_
        refine wl_load rfl ag_39 (by first | assumption | exact hS6.cell 0 rfl rfl) rfl ?_
        have hS6' := refT_shut (D := writeD (endsD D) f at_ s) ⟨fv, qv, l⟩ (hI) hS6; replace hS6 := hS6'; clear hS6'
        have hC12 := hS6.split [0] [true, false] rfl; dsimp only [selF, pickA, nthA, List.cons_append, List.nil_append] at hC12
        refine wl_call cal_28 rfl (crashR_sp hC12 ((hK.starL 0 rfl))) rfl ?_
        rintro e w12 ⟨_, rfl, rfl, hS12⟩; refine ⟨_, rfl, ?_⟩
        replace hS12 := hS12.join rfl; dsimp only [List.dropLast, List.cons_append, List.nil_append] at hS12; clear hC12
        clear hS6
        have e9 : comesD D f at_ s = crashD (writeD (endsD D) f at_ s) D.keep := by rw [comesD, hb]; rfl
        rw [← e9] at hS12
        refine wl_nil ?_
        refine fin0 (.inl rfl) rfl ?_
        exact ⟨_, rfl, rfl, hS12⟩

end Go.Proofs.YtleaahajkncnpaaDoor
