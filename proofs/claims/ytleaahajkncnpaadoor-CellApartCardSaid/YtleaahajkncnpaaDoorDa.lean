/- disk: its methods -/
import Derived.Test.YtleaahajkncnpaaDoorFx
namespace Go.Proofs.YtleaahajkncnpaaDoor
open Go.RowKit M
set_option linter.unusedVariables false
theorem keysInt : KeyOk Tryd.prog 3 intK := keyOk_int Tryd.underlying3
theorem keysSec : KeyOk Tryd.prog 78 pairK := keyOk_pair (t := 3) Tryd.underlying78 (by kernel_rfl) Tryd.underlying3 rfl rfl rfl rfl (by decide) (by decide)
theorem may_sp {w : World} {p : Nat} {kp : Value} {D : DS} {F : Th} (hS : Sat w [diskT p kp D, F]) (f : Int) :
    Calls Tryd.prog 47 #[ptrV p 0, intV f] w (Ret fun v w' => v = intV (mayE D f) ∧ w = w') := by
  obtain ⟨⟨bf, bs, qv⟩, hI, hS⟩ := diskT_open hS; dsimp only at hS
  refine calls_enter Tryd.func47 rfl Tryd.ntmps47 rfl ?_
  refine wc_seq ?_
  refine wc_region ?_
  refine wl_assign rfl rfl ?_
  refine wl_nil ?_
  refine qs_seq ?_
  refine wc_seq ?_
  refine wc_block ?_
  refine wc_seq ?_
  refine wc_region ?_
  refine wl_move rfl rfl ?_
  refine wl_nilCheck rfl rfl ?_
  refine wl_fieldAddr rfl fo_61_4 rfl ?_
  refine wl_load rfl ag_4 (by first | assumption | exact hS.cell 0 rfl rfl) rfl ?_
  refine wl_assign rfl rfl ?_
  refine wl_nil ?_
  refine qs_seq ?_
  refine wc_cond rfl (fun h1 => ?_) (fun h1 => ?_)
  · skip
    have hd : D.down = true := h1
    refine wc_seq ?_
    refine wc_region ?_
    refine wl_assign rfl rfl ?_
    refine wl_nil ?_
    refine qs_seq ?_
    refine wc_ret ?_
    refine qs_block_ret ?_
    refine qs_then_ret ?_
    refine fin1 (.inr rfl) rfl rfl ?_
    exact ⟨_, rfl, by simp [mayE, *], rfl⟩
  · skip
    have hd : D.down = false := h1
    refine wc_seq ?_
    refine wc_region ?_
    refine wl_move rfl rfl ?_
    refine wl_lss rfl rfl rfl ?_
    refine wl_move rfl rfl ?_
    refine wl_splitD 13 rfl (fun h2 => ?_) (fun h2 => ?_)
    · skip
      refine wl_unwanted rfl rfl (decide_eq_true h2) rfl ?_
      refine wl_unwanted rfl rfl (decide_eq_true h2) rfl ?_
      refine wl_pickT rfl (decide_eq_true h2) rfl rfl ?_
      refine wl_assign rfl rfl ?_
      refine wl_nil ?_
      refine qs_seq ?_
      refine wc_sub (L' := [(10, _), (4, _)]) (.cons rfl (.cons rfl .nil)) ?_
      refine wc_condT rfl ?_
      refine wc_seq ?_
      refine wc_region ?_
      refine wl_assign rfl rfl ?_
      refine wl_nil ?_
      refine qs_seq ?_
      refine wc_ret ?_
      refine qs_block_ret ?_
      refine qs_then_ret ?_
      refine fin1 (.inr rfl) rfl rfl ?_
      exact ⟨_, rfl, by simp [mayE, *], rfl⟩
    · skip
      refine wl_guard rfl rfl (decide_eq_false h2) ?_
      refine wl_move rfl rfl ?_
      refine wl_guard rfl rfl (decide_eq_false h2) ?_
      refine wl_geq rfl rfl rfl ?_
      refine wl_pickF rfl (decide_eq_false h2) rfl rfl ?_
      refine wl_assign rfl rfl ?_
      refine wl_nil ?_
      refine qs_seq ?_
      refine wc_sub (L' := [(10, _), (4, _)]) (.cons rfl (.cons rfl .nil)) ?_
      refine wc_condD rfl (fun h3 => ?_) (fun h3 => ?_)
      · skip
        refine wc_seq ?_
        refine wc_region ?_
        refine wl_assign rfl rfl ?_
        refine wl_nil ?_
        refine qs_seq ?_
        refine wc_ret ?_
        refine qs_block_ret ?_
        refine qs_then_ret ?_
        refine fin1 (.inr rfl) rfl rfl ?_
        exact ⟨_, rfl, by simp [mayE, *], rfl⟩
      · skip
        refine wc_skip ?_
        refine qs_block_normal ?_
        refine qs_seq ?_
        refine wc_seq ?_
        refine wc_region ?_
        refine wl_assign rfl rfl ?_
        refine wl_nil ?_
        refine qs_seq ?_
        refine wc_ret ?_
        refine fin1 (.inr rfl) rfl rfl ?_
        exact ⟨_, rfl, by simp [mayE, *], rfl⟩

theorem ends_sp {w : World} {p : Nat} {kp : Value} {D : DS} {F : Th} (hS : Sat w [diskT p kp D, F]) :
    Calls Tryd.prog 34 #[ptrV p 0] w (Ret fun v w' => v = .bool (endsB D) ∧ Sat w' [diskT p kp (endsD D), F]) := by
  obtain ⟨⟨bf, bs, qv⟩, hI, hS⟩ := diskT_open hS; dsimp only at hS
  refine calls_enter Tryd.func34 rfl Tryd.ntmps34 rfl ?_
  have ha := hI.armed
  refine wc_seq ?_
  refine wc_region ?_
  refine wl_assign rfl rfl ?_
  refine wl_nil ?_
  refine qs_seq ?_
  refine wc_seq ?_
  refine wc_seq ?_
  refine wc_region ?_
  refine wl_move rfl rfl ?_
  refine wl_nilCheck rfl rfl ?_
  refine wl_fieldAddr rfl fo_61_4 rfl ?_
  refine wl_load rfl ag_4 (by first | assumption | exact hS.cell 0 rfl rfl) rfl ?_
  refine wl_move rfl rfl ?_
  refine wl_split 7 rfl (fun h1 => ?_) (fun h1 => ?_)
  · skip
    refine wl_unwanted rfl rfl h1 rfl ?_
    refine wl_unwanted rfl rfl h1 rfl ?_
    refine wl_unwanted rfl rfl h1 rfl ?_
    refine wl_unwanted rfl rfl h1 rfl ?_
    refine wl_unwanted rfl rfl h1 rfl ?_
    refine wl_pickT rfl h1 rfl rfl ?_
    refine wl_nil ?_
    refine qs_seq ?_
    refine wc_sub (L' := [(13, _), (2, _), (0, _)]) (.cons rfl (.cons rfl (.cons rfl .nil))) ?_
    refine wc_condT rfl ?_
    refine wc_seq ?_
    refine wc_region ?_
    refine wl_assign rfl rfl ?_
    refine wl_nil ?_
    refine qs_seq ?_
    refine wc_ret ?_
    refine qs_then_ret ?_
    refine fin1 (.inr rfl) rfl rfl ?_
    exact ⟨_, rfl, by simp [endsB, *], by rw [show endsD D = D by simp [endsD, *]]; exact diskT_shut _ hI hS⟩
  · skip
    refine wl_guard rfl rfl h1 ?_
    refine wl_move rfl rfl ?_
    refine wl_guard rfl rfl h1 ?_
    refine wl_nilCheck rfl rfl ?_
    refine wl_guard rfl rfl h1 ?_
    refine wl_fieldAddr rfl fo_61_5 rfl ?_
    refine wl_guard rfl rfl h1 ?_
    refine wl_load rfl ag_3 (by first | assumption | exact hS.cell 0 rfl rfl) rfl ?_
    refine wl_guard rfl rfl h1 ?_
    refine wl_eql rfl rfl rfl ?_
    refine wl_pickF rfl h1 rfl rfl ?_
    refine wl_nil ?_
    refine qs_seq ?_
    refine wc_sub (L' := [(13, _), (2, _), (0, _)]) (.cons rfl (.cons rfl (.cons rfl .nil))) ?_
    refine wc_condD rfl (fun h2 => ?_) (fun h2 => ?_)
    · skip
      refine wc_seq ?_
      refine wc_region ?_
      refine wl_assign rfl rfl ?_
      refine wl_nil ?_
      refine qs_seq ?_
      refine wc_ret ?_
      refine qs_then_ret ?_
      refine fin1 (.inr rfl) rfl rfl ?_
      exact ⟨_, rfl, by simp [endsB, *], by rw [show endsD D = D by simp [endsD, *]]; exact diskT_shut _ hI hS⟩
    · skip
      refine wc_skip ?_
      refine qs_seq ?_
      refine wc_seq ?_
      refine wc_region ?_
      refine wl_move rfl rfl ?_
      refine wl_nilCheck rfl rfl ?_
      refine wl_fieldAddr rfl fo_61_5 rfl ?_
      refine wl_load rfl ag_3 (by first | assumption | exact hS.cell 0 rfl rfl) rfl ?_
      refine wl_sub' rfl rfl (by omega) (by omega) rfl ?_
      refine wl_nilCheck rfl rfl ?_
      refine wl_fieldAddr rfl fo_61_5 rfl ?_
      first | (refine wl_store hS rfl rfl sz_3 (by first | rfl | assumption | exact hS.own_one 2 rfl) (i := 0) rfl (by first | decide | exact Nat.le_of_ble_eq_true rfl | (simp; done) | omega) ?_)
      intro w3 hS4; dsimp only [List.set] at hS4
      refine wl_nil ?_
      refine qs_seq ?_
      refine wc_seq ?_
      refine wc_region ?_
      refine wl_move rfl rfl ?_
      refine wl_nilCheck rfl rfl ?_
      refine wl_fieldAddr rfl fo_61_5 rfl ?_
      refine wl_load rfl ag_3 (by first | assumption | exact hS4.cell 0 rfl rfl) rfl ?_
      refine wl_eql rfl rfl rfl ?_
      refine wl_assign rfl rfl ?_
      refine wl_nil ?_
      refine qs_seq ?_
      refine wc_sub (L' := [(2, _)]) (.cons rfl .nil) ?_
      refine wc_ret ?_
      refine fin1 (.inr rfl) rfl rfl ?_
      exact ⟨_, rfl, by rw [show endsB D = decide (D.armed = 1) by simp [endsB, *]]; congr 2; simp; omega, by rw [show endsD D = { D with armed := D.armed - 1 } by simp [endsD, *]]; exact diskT_shut ⟨bf, bs, qv⟩ { hI with armed := ⟨by simp; omega, by simp; omega⟩ } hS4⟩

theorem start_sp {w : World} {p : Nat} {kp : Value} {D : DS} {F : Th} (hS : Sat w [diskT p kp D, F]) :
    Calls Tryd.prog 23 #[ptrV p 0] w (Ret fun v w' => v = .tuple #[] ∧ Sat w' [diskT p kp { D with down := false }, F]) := by
  obtain ⟨⟨bf, bs, qv⟩, hI, hS⟩ := diskT_open hS; dsimp only at hS
  refine calls_enter Tryd.func23 rfl Tryd.ntmps23 rfl ?_
  refine wc_region ?_
  refine wl_move rfl rfl ?_
  refine wl_nilCheck rfl rfl ?_
  refine wl_fieldAddr rfl fo_61_4 rfl ?_
  first | (refine wl_store hS rfl rfl sz_4 (by first | rfl | assumption | exact hS.own_one 2 rfl) (i := 0) rfl (by first | decide | exact Nat.le_of_ble_eq_true rfl | (simp; done) | omega) ?_)
  intro w1 hS2; dsimp only [List.set] at hS2
  refine wl_nil ?_
  refine fin0 (.inl rfl) rfl ?_
  exact ⟨_, rfl, rfl, diskT_shut ⟨bf, bs, qv⟩ { hI with } hS2⟩

theorem lose_sp {w : World} {p : Nat} {kp : Value} {D : DS} {F : Th} (hS : Sat w [diskT p kp D, F]) (n : Int) (hn : n ≤ 9223372036854775807) :
    Calls Tryd.prog 19 #[ptrV p 0, intV n] w (Ret fun v w' => v = .tuple #[] ∧ Sat w' [diskT p kp { D with lost := max n 0 }, F]) := by
  obtain ⟨⟨bf, bs, qv⟩, hI, hS⟩ := diskT_open hS; dsimp only at hS
  refine calls_enter Tryd.func19 rfl Tryd.ntmps19 rfl ?_
  refine wc_region ?_
  refine wl_move rfl rfl ?_
  refine wl_move rfl rfl ?_
  refine wl_maxI rfl rfl rfl ?_
  refine wl_nilCheck rfl rfl ?_
  refine wl_fieldAddr rfl fo_61_3 rfl ?_
  first | (refine wl_store hS rfl rfl sz_3 (by first | rfl | assumption | exact hS.own_one 2 rfl) (i := 0) rfl (by first | decide | exact Nat.le_of_ble_eq_true rfl | (simp; done) | omega) ?_)
  intro w1 hS2; dsimp only [List.set] at hS2
  refine wl_nil ?_
  refine fin0 (.inl rfl) rfl ?_
  exact ⟨_, rfl, rfl, diskT_shut ⟨bf, bs, qv⟩ { hI with lost := ⟨by simp; omega, by simp; omega⟩ } hS2⟩

def newD : DS := ⟨fun _ => ([], []), [], 0, false, 0, []⟩
theorem newD_inv : DInv newD := ⟨by simp [newD], by simp [newD], by simp [newD], by simp [newD], by simp [newD], by simp [newD]⟩
theorem new_shut {w : World} {p bf bs : Nat} {F : Th} (h : Sat w [blkT p [.map (some bf), .slice none 0 0, .map (some bs), intV 0, .bool false, intV 0, .slice none 0 0], mapT pairK bs (fun _ => none), mapT intK bf (fun _ => none), F]) :
    Sat w [blkT p (cellsD ⟨bf, bs, .slice none 0 0⟩ (.slice none 0 0) newD), filesT bf newD.F, ownT (.slice none 0 0) newD.Q.length 2 (secV newD.Q), setT bs newD.Q, F] := by
  have h1 := setT_shut (Q := []) (fun _ => none) (by simp) (h.pull 1 rfl); dsimp only [List.eraseIdx] at h1
  have h2 := filesT_shut (F := fun _ => ([], [])) (fun _ => none) (fun _ => rfl) (h1.pull 2 rfl); dsimp only [List.eraseIdx] at h2
  have h3 := h2.new (Only.refl [] w) (A := ownT (.slice none 0 0) 0 2 []) (F' := fun k => k ∈ ([] : List Nat)) ⟨[], rfl, Own.nil w 2⟩ (by simp)
  exact h3.reorder [3, 1, 0, 2, 4] rfl
theorem new_sp {w : World} {F : Th} (hS : Sat w [F]) :
    Calls Tryd.prog 9 #[] w (Ret fun v w' => ∃ p, v = ptrV p 0 ∧ Sat w' [diskT p (.slice none 0 0) newD, F]) := by
  refine calls_enter Tryd.func9 rfl Tryd.ntmps9 rfl ?_
  refine wc_seq ?_
  refine wc_region ?_
  refine wl_assign rfl rfl ?_
  refine wl_nil ?_
  refine qs_seq ?_
  refine wc_seq ?_
  refine wc_region ?_
  refine wl_makeMap intK hS rfl ?_
  intro b1 w1 hS1
  refine wl_makeMap pairK hS1 rfl ?_
  intro b2 w2 hS2
  clear hS1
  refine wl_buildS rfl pl_61_0_2 asz_61 zr_61 rfl rfl ?_
  refine wl_box hS2 rfl rfl rfl ?_
  intro b3 w3 hS3
  clear hS2
  refine wl_assign rfl rfl ?_
  refine wl_nil ?_
  refine qs_seq ?_
  refine wc_ret ?_
  refine fin1 (.inr rfl) rfl rfl ?_
  refine ⟨_, rfl, _, rfl, diskT_shut ⟨b1, b2, .slice none 0 0⟩ newD_inv ?_⟩
  exact new_shut hS3

theorem size_sp {w : World} {p : Nat} {kp : Value} {D : DS} {F : Th} (hS : Sat w [diskT p kp D, F]) (f : Int) :
    Calls Tryd.prog 30 #[ptrV p 0, intV f] w (Ret fun v w' => v = intV (D.F f).1.length ∧ w = w') := by
  obtain ⟨⟨bf, bs, qv⟩, hI, hS⟩ := diskT_open hS; dsimp only at hS
  obtain ⟨g, hg, hS⟩ := filesT_open (hS.pull 1 rfl); dsimp only [List.eraseIdx] at hS
  refine calls_enter Tryd.func30 rfl Tryd.ntmps30 rfl ?_
  refine wc_seq ?_
  refine wc_region ?_
  refine wl_assign rfl rfl ?_
  refine wl_nil ?_
  refine qs_seq ?_
  refine wc_seq ?_
  refine wc_region ?_
  refine wl_move rfl rfl ?_
  refine wl_nilCheck rfl rfl ?_
  refine wl_fieldAddr rfl fo_61_0 rfl ?_
  refine wl_load rfl ag_57 (by first | assumption | exact hS.cell 1 rfl rfl) rfl ?_
  refine wl_move rfl rfl ?_
  refine wl_lookup 0 hS keysInt Tryd.underlying57 rfl rfl rfl zr_80 (hg _) rfl ?_
  refine wl_field fv_80_0 rfl rfl rfl ?_
  refine wl_lenS Tryd.underlying9 rfl rfl ?_
  refine wl_assign rfl rfl ?_
  refine wl_nil ?_
  refine qs_seq ?_
  refine wc_sub (L' := [(4, _)]) (.cons rfl .nil) ?_
  refine wc_ret ?_
  refine fin1 (.inr rfl) rfl rfl ?_
  exact ⟨_, rfl, rfl, rfl⟩

theorem read_ok {D : DS} {f at_ size : Int} {A B : Nat} (h : ¬ mayE D f ≠ 0) (h1 : 0 ≤ at_) (h2 : 0 ≤ size) (hA : min at_ ((D.F f).1.length : Int) = A) (hB : min size ((((D.F f).1.take (D.F f).1.length).drop A).length : Int) = B) :
    Value.tuple #[strV (((((D.F f).1.take (D.F f).1.length).drop A).take B).drop 0), intV 0] = .tuple #[strV (ReadS D f at_ size), intV (ReadE D f at_ size)] := by
  have e : ReadE D f at_ size = 0 := by simp only [ReadE]; rw [if_neg h, if_neg (by omega)]
  rw [e, ReadS, if_pos e]
  have e2 : ((D.F f).1.drop at_.toNat) = (((D.F f).1.take (D.F f).1.length).drop A) := by
    rw [List.take_length]
    by_cases hc : at_ ≤ (D.F f).1.length
    · rw [show A = at_.toNat by omega]
    · rw [List.drop_eq_nil_of_le (by omega), List.drop_eq_nil_of_le (by omega)]
  have e3 : (((D.F f).1.drop at_.toNat).take size.toNat) = ((((D.F f).1.take (D.F f).1.length).drop A).take B) := by
    rw [← e2] at hB ⊢
    by_cases hc : size ≤ ((D.F f).1.drop at_.toNat).length
    · rw [show B = size.toNat by omega]
    · rw [List.take_of_length_le (by omega), List.take_of_length_le (by omega)]
  rw [e3, List.drop_zero]
theorem read_sp {w : World} {p : Nat} {kp : Value} {D : DS} {F : Th} (hS : Sat w [diskT p kp D, F]) (f at_ size : Int) :
    Calls Tryd.prog 31 #[ptrV p 0, intV f, intV at_, intV size] w (Ret fun v w' => v = .tuple #[strV (ReadS D f at_ size), intV (ReadE D f at_ size)] ∧ w = w') := by
  have hS0 := hS
  obtain ⟨⟨bf, bs, qv⟩, hI, hS⟩ := diskT_open hS; dsimp only at hS
  obtain ⟨g, hg, hS⟩ := filesT_open (hS.pull 1 rfl); dsimp only [List.eraseIdx] at hS
  refine calls_enter Tryd.func31 rfl Tryd.ntmps31 rfl ?_
  refine wc_seq ?_
  refine wc_region ?_
  refine wl_assign rfl rfl ?_
  refine wl_assign rfl rfl ?_
  refine wl_nil ?_
  refine qs_seq ?_
  refine wc_seq ?_
  refine wc_seq ?_
  refine wc_region ?_
  refine wl_move rfl rfl ?_
  refine wl_move rfl rfl ?_
  refine wl_call cal_47 rfl (may_sp (hS0) f) rfl ?_
  rintro e _ ⟨_, rfl, rfl, rfl⟩; refine ⟨_, rfl, ?_⟩
  refine wl_assign rfl rfl ?_
  refine wl_nil ?_
  refine qs_seq ?_
  refine wc_seq ?_
  refine wc_region ?_
  refine wl_move rfl rfl ?_
  refine wl_neq rfl rfl rfl ?_
  refine wl_nil ?_
  refine qs_seq ?_
  refine wc_sub (L' := [(16, _), (10, _), (9, _), (8, _), (0, _), (1, _), (2, _), (3, _)]) (.cons rfl (.cons rfl (.cons rfl (.cons rfl (.cons rfl (.cons rfl (.cons rfl (.cons rfl .nil)))))))) ?_
  refine wc_condD rfl (fun h2 => ?_) (fun h2 => ?_)
  · skip
    refine wc_seq ?_
    refine wc_region ?_
    refine wl_move rfl rfl ?_
    refine wl_assign rfl rfl ?_
    refine wl_assign rfl rfl ?_
    refine wl_nil ?_
    refine qs_seq ?_
    refine wc_ret ?_
    refine qs_then_ret ?_
    refine fin2 (.inr rfl) rfl rfl rfl ?_
    exact ⟨_, rfl, by simp [ReadE, ReadS, *], rfl⟩
  · skip
    refine wc_skip ?_
    refine qs_seq ?_
    refine wc_seq ?_
    refine wc_seq ?_
    refine wc_region ?_
    refine wl_move rfl rfl ?_
    refine wl_lss rfl rfl rfl ?_
    refine wl_move rfl rfl ?_
    refine wl_splitD 20 rfl (fun h3 => ?_) (fun h3 => ?_)
    · skip
      refine wl_unwanted rfl rfl (decide_eq_true h3) rfl ?_
      refine wl_unwanted rfl rfl (decide_eq_true h3) rfl ?_
      refine wl_pickT rfl (decide_eq_true h3) rfl rfl ?_
      refine wl_nil ?_
      refine qs_seq ?_
      refine wc_sub (L' := [(23, _), (9, _), (8, _), (0, _), (1, _), (2, _), (3, _)]) (.cons rfl (.cons rfl (.cons rfl (.cons rfl (.cons rfl (.cons rfl (.cons rfl .nil))))))) ?_
      refine wc_condT rfl ?_
      refine wc_seq ?_
      refine wc_region ?_
      refine wl_assign rfl rfl ?_
      refine wl_assign rfl rfl ?_
      refine wl_nil ?_
      refine qs_seq ?_
      refine wc_ret ?_
      refine qs_then_ret ?_
      refine fin2 (.inr rfl) rfl rfl rfl ?_
      exact ⟨_, rfl, by simp [ReadE, ReadS, *], rfl⟩
    · skip
      refine wl_guard rfl rfl (decide_eq_false h3) ?_
      refine wl_move rfl rfl ?_
      refine wl_guard rfl rfl (decide_eq_false h3) ?_
      refine wl_lss rfl rfl rfl ?_
      refine wl_pickF rfl (decide_eq_false h3) rfl rfl ?_
      refine wl_nil ?_
      refine qs_seq ?_
      refine wc_sub (L' := [(23, _), (9, _), (8, _), (0, _), (1, _), (2, _), (3, _)]) (.cons rfl (.cons rfl (.cons rfl (.cons rfl (.cons rfl (.cons rfl (.cons rfl .nil))))))) ?_
      refine wc_condD rfl (fun h4 => ?_) (fun h4 => ?_)
      · skip
        refine wc_seq ?_
        refine wc_region ?_
        refine wl_assign rfl rfl ?_
        refine wl_assign rfl rfl ?_
        refine wl_nil ?_
        refine qs_seq ?_
        refine wc_ret ?_
        refine qs_then_ret ?_
        refine fin2 (.inr rfl) rfl rfl rfl ?_
        exact ⟨_, rfl, by simp [ReadE, ReadS, *], rfl⟩
      · skip
        refine wc_skip ?_
        refine qs_seq ?_
        refine wc_seq ?_
        refine wc_region ?_
        refine wl_move rfl rfl ?_
        refine wl_nilCheck rfl rfl ?_
        refine wl_fieldAddr rfl fo_61_0 rfl ?_
        refine wl_load rfl ag_57 (by first | assumption | exact hS.cell 1 rfl rfl) rfl ?_
        refine wl_move rfl rfl ?_
        refine wl_lookup 0 hS keysInt Tryd.underlying57 rfl rfl rfl zr_80 (hg _) rfl ?_
        refine wl_field fv_80_0 rfl rfl rfl ?_
        refine wl_assign rfl rfl ?_
        refine wl_nil ?_
        refine qs_seq ?_
        refine wc_sub (L' := [(11, _), (9, _), (8, _), (2, _), (3, _)]) (.cons rfl (.cons rfl (.cons rfl (.cons rfl (.cons rfl .nil))))) ?_
        refine wc_seq ?_
        obtain ⟨A, hA⟩ : ∃ A : Nat, min at_ ((D.F f).1.length : Int) = A := ⟨(min at_ ((D.F f).1.length : Int)).toNat, by omega⟩
        refine wc_region ?_
        refine wl_move rfl rfl ?_
        refine wl_move rfl rfl ?_
        refine wl_move rfl rfl ?_
        refine wl_lenS Tryd.underlying9 rfl rfl ?_
        refine wl_minI rfl rfl rfl ?_
        refine wl_sliceS A _ Tryd.underlying9 rfl (bndS A _ rfl hA) (bndN _) (by omega) (by omega) rfl ?_
        refine wl_assign rfl rfl ?_
        refine wl_nil ?_
        refine qs_seq ?_
        refine wc_sub (L' := [(11, _), (9, _), (8, _), (3, _)]) (.cons rfl (.cons rfl (.cons rfl (.cons rfl .nil)))) ?_
        refine wc_seq ?_
        obtain ⟨B, hB⟩ : ∃ B : Nat, min size ((((D.F f).1.take (D.F f).1.length).drop A).length : Int) = B := ⟨(min size ((((D.F f).1.take (D.F f).1.length).drop A).length : Int)).toNat, by omega⟩
        refine wc_region ?_
        refine wl_move rfl rfl ?_
        refine wl_move rfl rfl ?_
        refine wl_move rfl rfl ?_
        refine wl_lenS Tryd.underlying9 rfl rfl ?_
        refine wl_minI rfl rfl rfl ?_
        refine wl_sliceS _ B Tryd.underlying9 rfl (bndN _) (bndS B _ rfl hB) (by omega) (by omega) rfl ?_
        refine wl_assign rfl rfl ?_
        refine wl_assign rfl rfl ?_
        refine wl_nil ?_
        refine qs_seq ?_
        refine wc_ret ?_
        refine fin2 (.inr rfl) rfl rfl rfl ?_
        exact ⟨_, rfl, read_ok (by assumption) (by omega) (by omega) hA hB, rfl⟩

theorem put3 (s t : Bytes) (a : Nat) (hne : t ≠ []) (hc : max s.length (a + t.length) ≠ a) : splice (bytesV (fillB s (max s.length (a + t.length)))) (0 + a * 1) (bytesV (t.take (max s.length (a + t.length) - a))) = bytesV (putB s a t) := by
  rw [List.take_of_length_le (by omega), bytesV_splice, Nat.zero_add, Nat.mul_one, put2 s t a hne]
theorem put_sp {w : World} {F : Th} (hS : Sat w [F]) (s t : Bytes) (a : Nat) (h1 : s.length ≤ 16777216) (h2 : a + t.length ≤ 33554432) :
    Calls Tryd.prog 44 #[strV s, intV a, strV t] w (Ret fun v w' => v = strV (putB s a t) ∧ Sat w' [F]) := by
  refine calls_enter Tryd.func44 rfl Tryd.ntmps44 rfl ?_
  refine wc_seq ?_
  refine wc_region ?_
  refine wl_assign rfl rfl ?_
  refine wl_nil ?_
  refine qs_seq ?_
  refine wc_seq ?_
  refine wc_seq ?_
  refine wc_region ?_
  refine wl_move rfl rfl ?_
  refine wl_eqlS rfl rfl rfl ?_
  refine wl_nil ?_
  refine qs_seq ?_
  refine wc_condD rfl (fun h1 => ?_) (fun h1 => ?_)
  · skip
    have hne : t = [] := h1
    refine wc_seq ?_
    refine wc_region ?_
    refine wl_move rfl rfl ?_
    refine wl_assign rfl rfl ?_
    refine wl_nil ?_
    refine qs_seq ?_
    refine wc_ret ?_
    refine qs_then_ret ?_
    refine fin1 (.inr rfl) rfl rfl ?_
    exact ⟨_, rfl, by rw [hne, putB_nil], hS⟩
  · skip
    have hne : t ≠ [] := h1
    refine wc_skip ?_
    refine qs_seq ?_
    refine wc_seq ?_
    refine wc_region ?_
    refine wl_move rfl rfl ?_
    refine wl_lenS Tryd.underlying9 rfl rfl ?_
    refine wl_move rfl rfl ?_
    refine wl_move rfl rfl ?_
    refine wl_lenS Tryd.underlying9 rfl rfl ?_
    refine wl_add rfl rfl (by omega) (by omega) rfl ?_
    refine wl_maxI rfl rfl rfl ?_
    refine wl_make hS (max s.length (a + t.length)) rfl rfl (by omega) Tryd.underlying46 ifo_5 rfl (by omega) (by omega) rfl ?_
    intro b w1 hS1; rw [zeros_made] at hS1
    refine wl_assign rfl rfl ?_
    refine wl_nil ?_
    refine qs_seq ?_
    refine wc_sub (L' := [(7, _), (6, _), (0, _), (1, _), (2, _)]) (.cons rfl (.cons rfl (.cons rfl (.cons rfl (.cons rfl .nil))))) ?_
    refine wc_seq ?_
    refine wc_region ?_
    refine wl_move rfl rfl ?_
    refine wl_move rfl rfl ?_
    refine wl_copyS 0 hS1 rfl rfl rfl rfl Tryd.underlying46 sz_5 (by simp [bytesV]; omega) (put1 s _ (by omega)) rfl ?_
    intro w2 hS2; dsimp only [List.set] at hS2
    refine wl_nil ?_
    refine qs_seq ?_
    refine wc_seq ?_
    refine wc_region ?_
    refine wl_move rfl rfl ?_
    refine wl_move rfl rfl ?_
    refine wl_slice a (max s.length (a + t.length)) Tryd.underlying46 sz_5 rfl (bndS a _ rfl rfl) (bndN _) (by omega) (by omega) rfl ?_
    have hc : max s.length (a + t.length) ≠ a := by have : 0 < t.length := List.length_pos_iff.2 hne; omega
    rw [if_neg hc]
    refine wl_move rfl rfl ?_
    refine wl_copyS 0 hS2 rfl rfl rfl rfl Tryd.underlying46 sz_5 (by simp [bytesV, fillB]; omega) (put3 s t a hne hc) rfl ?_
    intro w3 hS3; dsimp only [List.set] at hS3
    refine wl_nil ?_
    refine qs_seq ?_
    refine wc_sub (L' := [(7, _), (6, _)]) (.cons rfl (.cons rfl .nil)) ?_
    refine wc_seq ?_
    refine wc_region ?_
    refine wl_move rfl rfl ?_
    refine wl_strB 0 hS3 (putB s a t) rfl rfl rfl Tryd.underlying46 Tryd.underlying5 Tryd.underlying9 (by rw [List.drop_zero, List.take_of_length_le (by rw [bytesV_length, putB_length s t a hne]; omega)]) (putB_length s t a hne) rfl ?_
    refine wl_assign rfl rfl ?_
    refine wl_nil ?_
    refine qs_seq ?_
    refine wc_ret ?_
    refine fin1 (.inr rfl) rfl rfl ?_
    exact ⟨_, rfl, rfl, hS3.tail⟩

end Go.Proofs.YtleaahajkncnpaaDoor
