/- strings.Contains; wire.Num -/
import Derived.Test.YtdkfppcafpjomaaGreatDoorTt3
import Derived.Test.YtdkfppcafpjomaaGreatDoorWr
namespace Go.Proofs.YtdkfppcafpjomaaGreatDoor
open Go.RowKit M
set_option linter.unusedVariables false
theorem ixb1 {w : World} {As : List Th} (hS : Sat w As) (s : Bs) (e : UInt8) : Calls Tryz.prog 102 #[strV s, byteV e] w (Ret fun v w' => v = intV (Lib.indexByte s e) ∧ Sat w' As) := by
  refine (Tryz.stringslite_IndexByte ⟨s.toArray⟩ (e.toNat : Int) w).mono fun e' w' ⟨h1, h2⟩ => ⟨_, h1, ?_, by rw [h2]; exact hS⟩
  simp
theorem ixb_mem (s : Bs) (e : UInt8) : 0 ≤ Lib.indexByte s e ↔ e ∈ s := by
  constructor
  · intro h
    obtain ⟨o, ho⟩ : ∃ o : Nat, Lib.indexByte s e = (o : Int) := ⟨(Lib.indexByte s e).toNat, by omega⟩
    exact List.mem_of_getElem? (Lib.indexByte_some ho).1
  · intro h
    rcases Int.lt_or_le (Lib.indexByte s e) 0 with q | q
    · exact absurd h (fun hm => by obtain ⟨k, hk⟩ := List.mem_iff_getElem?.1 hm; exact Lib.indexByte_none (show Lib.indexByte s e = -1 by have := Lib.indexByte_ge s e; omega) k hk)
    · exact q
theorem idx_self {s : Bs} {e : UInt8} (h : [e] = s) : (0 : Int) ≤ 0 ↔ e ∈ s := by subst h; simp
set_option maxRecDepth 100000 in
theorem idx_sp {w : World} {F : Th} (hS : Sat w [F]) (s : Bs) (e : UInt8) :
    Calls Tryz.prog 107 #[strV s, strV [e]] w (Ret fun v w' => (∃ i, v = intV i ∧ (0 ≤ i ↔ e ∈ s)) ∧ Sat w' [F]) := by
  refine calls_enter Tryz.func107 rfl Tryz.ntmps107 rfl ?_
  refine wc_seq ?_
  refine wc_region ?_
  refine wl_assign rfl rfl ?_
  refine wl_nil ?_
  refine qs_seq ?_
  refine wc_seq ?_
  refine wc_region ?_
  refine wl_move rfl rfl ?_
  refine wl_lenS Tryz.underlying9 rfl rfl ?_
  refine wl_assign rfl rfl ?_
  refine wl_nil ?_
  refine qs_seq ?_
  refine wc_seq ?_
  refine wc_block ?_
  refine wc_seq ?_
  refine wc_region ?_
  refine wl_move rfl rfl ?_
  refine wl_eql rfl rfl rfl ?_
  refine wl_move rfl rfl ?_
  refine wl_splitD 19 rfl (fun h1 => ?_) (fun h1 => ?_)
  · skip
    simp at h1
  · skip
    refine wl_guard rfl rfl (decide_eq_false h1) ?_
    refine wl_move rfl rfl ?_
    refine wl_guard rfl rfl (decide_eq_false h1) ?_
    refine wl_move rfl rfl ?_
    refine wl_guard rfl rfl (decide_eq_false h1) ?_
    refine wl_eqlS rfl rfl rfl ?_
    refine wl_pickF rfl (decide_eq_false h1) rfl rfl ?_
    refine wl_assign rfl rfl ?_
    refine wl_nil ?_
    refine qs_seq ?_
    refine wc_sub (L' := [(16, _), (5, _), (4, _), (0, _), (1, _)]) (.cons rfl (.cons rfl (.cons rfl (.cons rfl (.cons rfl .nil))))) ?_
    refine wc_condD rfl (fun h2 => ?_) (fun h2 => ?_)
    · skip
      refine wc_seq ?_
      refine wc_region ?_
      refine wl_assign rfl rfl ?_
      refine wl_nil ?_
      refine qs_seq ?_
      refine wc_ret ?_
      refine qs_block_ret ?_
      refine qs_then_ret ?_
      refine fin1 (.inr rfl) rfl rfl ?_
      exact ⟨_, rfl, ⟨0, rfl, (idx_self (by assumption))⟩, hS⟩
    · skip
      refine wc_seq ?_
      refine wc_region ?_
      refine wl_move rfl rfl ?_
      refine wl_eql rfl rfl rfl ?_
      refine wl_assign rfl rfl ?_
      refine wl_nil ?_
      refine qs_seq ?_
      refine wc_condD rfl (fun h3 => ?_) (fun h3 => ?_)
      · skip
        refine wc_seq ?_
        refine wc_region ?_
        refine wl_move rfl rfl ?_
        refine wl_move rfl rfl ?_
        refine wl_indexS 0 Tryz.underlying9 rfl rfl (by first | rfl | omega) (show ([e] : Bs)[0]? = some e from rfl) rfl ?_
        have hC4 := hS.split [] [false] rfl; dsimp only [selF, pickA, nthA, List.cons_append, List.nil_append] at hC4
        refine wl_call cal_102 rfl (ixb1 hC4 s e) rfl ?_
        rintro e w4 ⟨_, rfl, rfl, hS4⟩; refine ⟨_, rfl, ?_⟩
        replace hS4 := hS4.join rfl; dsimp only [List.dropLast, List.cons_append, List.nil_append] at hS4; clear hC4
        refine wl_assign rfl rfl ?_
        refine wl_nil ?_
        refine qs_seq ?_
        refine wc_sub (L' := [(4, _), (5, _), (0, _), (1, _)]) (.cons rfl (.cons rfl (.cons rfl (.cons rfl .nil)))) ?_
        refine wc_ret ?_
        refine qs_block_ret ?_
        refine qs_then_ret ?_
        refine fin1 (.inr rfl) rfl rfl ?_
        exact ⟨_, rfl, ⟨_, rfl, ixb_mem s e⟩, hS4⟩
      · skip
        exact absurd rfl h3

theorem idxS_sp {w : World} {F : Th} (hS : Sat w [F]) (s : Bs) (e : UInt8) :
    Calls Tryz.prog 88 #[strV s, strV [e]] w (Ret fun v w' => (∃ i, v = intV i ∧ (0 ≤ i ↔ e ∈ s)) ∧ Sat w' [F]) := by
  refine calls_enter Tryz.func88 rfl Tryz.ntmps88 rfl ?_
  refine wc_seq ?_
  refine wc_region ?_
  refine wl_assign rfl rfl ?_
  refine wl_nil ?_
  refine qs_seq ?_
  refine wc_seq ?_
  refine wc_region ?_
  refine wl_move rfl rfl ?_
  refine wl_move rfl rfl ?_
  have hC1 := hS.split [] [false] rfl; dsimp only [selF, pickA, nthA, List.cons_append, List.nil_append] at hC1
  refine wl_call cal_107 rfl (idx_sp hC1 s e) rfl ?_
  rintro e w1 ⟨_, rfl, ⟨i, rfl, hi⟩, hS1⟩; refine ⟨_, rfl, ?_⟩
  replace hS1 := hS1.join rfl; dsimp only [List.dropLast, List.cons_append, List.nil_append] at hS1; clear hC1
  refine wl_assign rfl rfl ?_
  refine wl_nil ?_
  refine qs_seq ?_
  refine wc_ret ?_
  refine fin1 (.inr rfl) rfl rfl ?_
  exact ⟨_, rfl, ⟨_, rfl, hi⟩, hS1⟩

theorem contains_sp {w : World} {F : Th} (hS : Sat w [F]) (s : Bs) (e : UInt8) :
    Calls Tryz.prog 70 #[strV s, strV [e]] w (Ret fun v w' => v = .bool (decide (e ∈ s)) ∧ Sat w' [F]) := by
  refine calls_enter Tryz.func70 rfl Tryz.ntmps70 rfl ?_
  refine wc_seq ?_
  refine wc_region ?_
  refine wl_assign rfl rfl ?_
  refine wl_nil ?_
  refine qs_seq ?_
  refine wc_seq ?_
  refine wc_region ?_
  refine wl_move rfl rfl ?_
  refine wl_move rfl rfl ?_
  have hC1 := hS.split [] [false] rfl; dsimp only [selF, pickA, nthA, List.cons_append, List.nil_append] at hC1
  refine wl_call cal_88 rfl (idxS_sp hC1 s e) rfl ?_
  rintro e w1 ⟨_, rfl, ⟨i, rfl, hi⟩, hS1⟩; refine ⟨_, rfl, ?_⟩
  replace hS1 := hS1.join rfl; dsimp only [List.dropLast, List.cons_append, List.nil_append] at hS1; clear hC1
  refine wl_geq rfl rfl rfl ?_
  refine wl_assign rfl rfl ?_
  refine wl_nil ?_
  refine qs_seq ?_
  refine wc_ret ?_
  refine fin1 (.inr rfl) rfl rfl ?_
  exact ⟨_, rfl, by congr 1; exact decide_eq_decide.2 hi, hS1⟩

theorem wNum_sp {w : World} {F : Th} (hS : Sat w [F]) (hG : Ent F WireG) (n : Int) (hn : inI n) (h0 : 0 ≤ n) :
    Calls Tryz.prog 67 #[intV n] w (Ret fun v w' => v = strV (encN n) ∧ Sat w' [F]) := by
  refine calls_enter Tryz.func67 rfl Tryz.ntmps67 rfl ?_
  refine wc_seq ?_
  refine wc_region ?_
  refine wl_assign rfl rfl ?_
  refine wl_nil ?_
  refine qs_seq ?_
  refine wc_seq ?_
  refine wc_seq ?_
  refine wc_region ?_
  refine wl_move rfl rfl ?_
  refine wl_lss rfl rfl rfl ?_
  refine wl_nil ?_
  refine qs_seq ?_
  refine wc_condD rfl (fun h1 => ?_) (fun h1 => ?_)
  · skip
    exact absurd h1 (by omega)
  · skip
    refine wc_skip ?_
    refine qs_seq ?_
    refine wc_seq ?_
    refine wc_region ?_
    refine wl_move rfl rfl ?_
    have hC2 := hS.split [] [false] rfl; dsimp only [selF, pickA, nthA, List.cons_append, List.nil_append] at hC2
    refine wl_call cal_60 rfl (wInt_sp hC2 (hG.starL 0 rfl) n hn) rfl ?_
    rintro e w2 ⟨_, rfl, rfl, hS2⟩; refine ⟨_, rfl, ?_⟩
    replace hS2 := hS2.join rfl; dsimp only [List.dropLast, List.cons_append, List.nil_append] at hS2; clear hC2
    refine wl_assign rfl rfl ?_
    refine wl_nil ?_
    refine qs_seq ?_
    refine wc_ret ?_
    refine fin1 (.inr rfl) rfl rfl ?_
    exact ⟨_, rfl, rfl, hS2⟩

end Go.Proofs.YtdkfppcafpjomaaGreatDoor
