/- laws of disk: DiskTells -/
import Derived.Test.YtleaahajkncnpaaRi
import Derived.Test.YtleaahajkncnpaaDm
import Derived.Test.YtleaahajkncnpaaFt
namespace Go.Proofs.Ytleaahajkncnpaa
open Go.RowKit M
set_option linter.unusedVariables false
set_option maxRecDepth 100000 in
theorem tell_sp {w : World} {p : Nat} {D : DS} {F : Th} (hS : Sat w [rT p D, F]) (a : ActD) (hA : Ent F (RdL inC a.kv a.ks)) (hn : a.n ≤ 9223372036854775807) (hl : a.ks.length ≤ 1000) (hs : a.s.length ≤ 1099511627776) :
    Calls Try.prog 12 #[ptrV p 0, .agg #[intV a.d, intV a.f, intV a.n, strV a.s, a.kv]] w (Ret fun v w' => v = intV (doE D a) ∧ Sat w' [rT p (doD D a), F]) := by
  refine calls_enter Try.func12 rfl Try.ntmps12 rfl ?_
  refine wc_seq ?_
  refine wc_region ?_
  refine wl_box hS rfl rfl rfl ?_
  intro b1 w1 hS1
  refine wl_assign rfl rfl ?_
  refine wl_nil ?_
  refine qs_seq ?_
  refine wc_seq ?_
  refine wc_seq ?_
  refine wc_region ?_
  refine wl_fieldAddr rfl fo_33_0 rfl ?_
  refine wl_load rfl ag_3 (by first | assumption | exact hS1.cell 0 rfl rfl) rfl ?_
  refine wl_mask 3 rfl rfl rfl rfl (q := 8) rfl rfl ?_
  refine wl_nil ?_
  refine qs_seq ?_
  refine wc_block ?_
  refine wc_seq ?_
  refine wc_region ?_
  refine wl_eql rfl rfl rfl ?_
  refine wl_assign rfl rfl ?_
  refine wl_nil ?_
  refine qs_seq ?_
  refine wc_condD rfl (fun h2 => ?_) (fun h2 => ?_)
  · skip
    have hT0 : a.d % 8 = 2 := h2
    refine wc_seq ?_
    refine wc_region ?_
    refine wl_move rfl rfl ?_
    refine wl_fieldAddr rfl fo_33_1 rfl ?_
    refine wl_load rfl ag_3 (by first | assumption | exact hS1.cell 0 rfl rfl) rfl ?_
    have hC3 := hS1.split [1] [false, true, false] rfl; dsimp only [selF, pickA, nthA, List.cons_append, List.nil_append] at hC3
    refine wl_call cal_29 rfl (syncRT hC3 a.f) rfl ?_
    rintro e w3 ⟨_, rfl, rfl, hS3⟩; refine ⟨_, rfl, ?_⟩
    replace hS3 := hS3.join rfl; dsimp only [List.dropLast, List.cons_append, List.nil_append] at hS3; clear hC3
    clear hS1
    refine wl_assign rfl rfl ?_
    refine wl_nil ?_
    refine qs_seq ?_
    refine wc_sub (L' := [(4, _)]) (.cons rfl .nil) ?_
    refine wc_ret ?_
    refine qs_block_ret ?_
    refine qs_then_ret ?_
    refine fin1 (.inr rfl) rfl rfl ?_
    exact ⟨_, rfl, by simp [doE, *], by simp only [doD]; simp only [*, if_true, if_false, reduceIte, Int.reduceEq]; exact hS3.pick [0, 2] rfl⟩
  · skip
    have hF0 : ¬ a.d % 8 = 2 := h2
    refine wc_seq ?_
    refine wc_region ?_
    refine wl_eql rfl rfl rfl ?_
    refine wl_assign rfl rfl ?_
    refine wl_nil ?_
    refine qs_seq ?_
    refine wc_sub (L' := [(22, _), (7, _), (4, _), (3, _), (0, _)]) (.cons rfl (.cons rfl (.cons rfl (.cons rfl (.cons rfl .nil))))) ?_
    refine wc_condD rfl (fun h4 => ?_) (fun h4 => ?_)
    · skip
      have hT1 : a.d % 8 = 3 := h4
      refine wc_seq ?_
      refine wc_region ?_
      refine wl_move rfl rfl ?_
      refine wl_fieldAddr rfl fo_33_1 rfl ?_
      refine wl_load rfl ag_3 (by first | assumption | exact hS1.cell 0 rfl rfl) rfl ?_
      refine wl_fieldAddr rfl fo_33_2 rfl ?_
      refine wl_load rfl ag_3 (by first | assumption | exact hS1.cell 0 rfl rfl) rfl ?_
      have hC5 := hS1.split [1] [false, true, false] rfl; dsimp only [selF, pickA, nthA, List.cons_append, List.nil_append] at hC5
      refine wl_call cal_30 rfl (truncRT hC5 a.f a.n) rfl ?_
      rintro e w5 ⟨_, rfl, rfl, hS5⟩; refine ⟨_, rfl, ?_⟩
      replace hS5 := hS5.join rfl; dsimp only [List.dropLast, List.cons_append, List.nil_append] at hS5; clear hC5
      clear hS1
      refine wl_assign rfl rfl ?_
      refine wl_nil ?_
      refine qs_seq ?_
      refine wc_sub (L' := [(4, _)]) (.cons rfl .nil) ?_
      refine wc_ret ?_
      refine qs_block_ret ?_
      refine qs_then_ret ?_
      refine fin1 (.inr rfl) rfl rfl ?_
      exact ⟨_, rfl, by simp [doE, *], by simp only [doD]; simp only [*, if_true, if_false, reduceIte, Int.reduceEq]; exact hS5.pick [0, 2] rfl⟩
    · skip
      have hF1 : ¬ a.d % 8 = 3 := h4
      refine wc_seq ?_
      refine wc_region ?_
      refine wl_eql rfl rfl rfl ?_
      refine wl_assign rfl rfl ?_
      refine wl_nil ?_
      refine qs_seq ?_
      refine wc_condD rfl (fun h6 => ?_) (fun h6 => ?_)
      · skip
        have hT2 : a.d % 8 = 4 := h6
        refine wc_region ?_
        refine wl_move rfl rfl ?_
        refine wl_fieldAddr rfl fo_33_2 rfl ?_
        refine wl_load rfl ag_3 (by first | assumption | exact hS1.cell 0 rfl rfl) rfl ?_
        refine wl_mask 2 rfl rfl rfl rfl (q := 4) rfl rfl ?_
        have hC7 := hS1.split [1] [false, true, false] rfl; dsimp only [selF, pickA, nthA, List.cons_append, List.nil_append] at hC7
        refine wl_call cal_31 rfl (loseRT hC7 (a.n % 4) (by omega)) rfl ?_
        rintro e w7 ⟨_, rfl, rfl, hS7⟩; refine ⟨_, rfl, ?_⟩
        replace hS7 := hS7.join rfl; dsimp only [List.dropLast, List.cons_append, List.nil_append] at hS7; clear hC7
        clear hS1
        refine wl_nil ?_
        refine qs_block_normal ?_
        refine qs_seq ?_
        refine wc_sub (L' := [(4, _)]) (.cons rfl .nil) ?_
        refine wc_seq ?_
        refine wc_region ?_
        refine wl_assign rfl rfl ?_
        refine wl_nil ?_
        refine qs_seq ?_
        refine wc_ret ?_
        refine fin1 (.inr rfl) rfl rfl ?_
        exact ⟨_, rfl, by simp [doE, *], by simp only [doD]; simp only [*, if_true, if_false, reduceIte, Int.reduceEq]; exact hS7.pick [0, 2] rfl⟩
      · skip
        have hF2 : ¬ a.d % 8 = 4 := h6
        refine wc_seq ?_
        refine wc_region ?_
        refine wl_eql rfl rfl rfl ?_
        refine wl_assign rfl rfl ?_
        refine wl_nil ?_
        refine qs_seq ?_
        refine wc_condD rfl (fun h8 => ?_) (fun h8 => ?_)
        · skip
          have hT3 : a.d % 8 = 5 := h8
          refine wc_region ?_
          refine wl_move rfl rfl ?_
          refine wl_fieldAddr rfl fo_33_2 rfl ?_
          refine wl_load rfl ag_3 (by first | assumption | exact hS1.cell 0 rfl rfl) rfl ?_
          refine wl_fieldAddr rfl fo_33_4 rfl ?_
          refine wl_load rfl ag_31 (by first | assumption | exact hS1.cell 0 rfl rfl) rfl ?_
          have hC9 := hS1.split [1] [false, true, false] rfl; dsimp only [selF, pickA, nthA, List.cons_append, List.nil_append] at hC9
          refine wl_call cal_32 rfl (armRT hC9 a.n hn (hA.starL 1 rfl) (by omega)) rfl ?_
          rintro e w9 ⟨_, rfl, rfl, hS9⟩; refine ⟨_, rfl, ?_⟩
          replace hS9 := hS9.join rfl; dsimp only [List.dropLast, List.cons_append, List.nil_append] at hS9; clear hC9
          clear hS1
          refine wl_nil ?_
          refine qs_block_normal ?_
          refine qs_seq ?_
          refine wc_sub (L' := [(4, _)]) (.cons rfl .nil) ?_
          refine wc_seq ?_
          refine wc_region ?_
          refine wl_assign rfl rfl ?_
          refine wl_nil ?_
          refine qs_seq ?_
          refine wc_ret ?_
          refine fin1 (.inr rfl) rfl rfl ?_
          exact ⟨_, rfl, by simp [doE, *], by simp only [doD]; simp only [*, if_true, if_false, reduceIte, Int.reduceEq]; exact hS9.pick [0, 2] rfl⟩
        · skip
          have hF3 : ¬ a.d % 8 = 5 := h8
          refine wc_seq ?_
          refine wc_region ?_
          refine wl_eql rfl rfl rfl ?_
          refine wl_assign rfl rfl ?_
          refine wl_nil ?_
          refine qs_seq ?_
          refine wc_sub (L' := [(45, _), (7, _), (4, _), (3, _), (0, _)]) (.cons rfl (.cons rfl (.cons rfl (.cons rfl (.cons rfl .nil))))) ?_
          refine wc_condD rfl (fun h10 => ?_) (fun h10 => ?_)
          · skip
            have hT4 : a.d % 8 = 6 := h10
            refine wc_region ?_
            refine wl_move rfl rfl ?_
            refine wl_fieldAddr rfl fo_33_4 rfl ?_
            refine wl_load rfl ag_31 (by first | assumption | exact hS1.cell 0 rfl rfl) rfl ?_
            have hC11 := hS1.split [1] [false, true, false] rfl; dsimp only [selF, pickA, nthA, List.cons_append, List.nil_append] at hC11
            refine wl_call cal_33 rfl (crashRT hC11 (hA.starL 1 rfl)) rfl ?_
            rintro e w11 ⟨_, rfl, rfl, hS11⟩; refine ⟨_, rfl, ?_⟩
            replace hS11 := hS11.join rfl; dsimp only [List.dropLast, List.cons_append, List.nil_append] at hS11; clear hC11
            clear hS1
            refine wl_nil ?_
            refine qs_block_normal ?_
            refine qs_seq ?_
            refine wc_seq ?_
            refine wc_region ?_
            refine wl_assign rfl rfl ?_
            refine wl_nil ?_
            refine qs_seq ?_
            refine wc_ret ?_
            refine fin1 (.inr rfl) rfl rfl ?_
            exact ⟨_, rfl, by simp [doE, *], by simp only [doD]; simp only [*, if_true, if_false, reduceIte, Int.reduceEq]; exact hS11.pick [0, 2] rfl⟩
          · skip
            have hF4 : ¬ a.d % 8 = 6 := h10
            refine wc_seq ?_
            refine wc_region ?_
            refine wl_eql rfl rfl rfl ?_
            refine wl_assign rfl rfl ?_
            refine wl_nil ?_
            refine qs_seq ?_
            refine wc_condD rfl (fun h12 => ?_) (fun h12 => ?_)
            · skip
              have hT5 : a.d % 8 = 7 := h12
              refine wc_region ?_
              refine wl_move rfl rfl ?_
              have hC13 := hS1.split [1] [false, true, false] rfl; dsimp only [selF, pickA, nthA, List.cons_append, List.nil_append] at hC13
              refine wl_call cal_34 rfl (startRT hC13) rfl ?_
              rintro e w13 ⟨_, rfl, rfl, hS13⟩; refine ⟨_, rfl, ?_⟩
              replace hS13 := hS13.join rfl; dsimp only [List.dropLast, List.cons_append, List.nil_append] at hS13; clear hC13
              clear hS1
              refine wl_nil ?_
              refine qs_block_normal ?_
              refine qs_seq ?_
              refine wc_seq ?_
              refine wc_region ?_
              refine wl_assign rfl rfl ?_
              refine wl_nil ?_
              refine qs_seq ?_
              refine wc_ret ?_
              refine fin1 (.inr rfl) rfl rfl ?_
              exact ⟨_, rfl, by simp [doE, *], by simp only [doD]; simp only [*, if_true, if_false, reduceIte, Int.reduceEq]; exact hS13.pick [0, 2] rfl⟩
            · skip
              have hF5 : ¬ a.d % 8 = 7 := h12
              refine wc_seq ?_
              refine wc_region ?_
              refine wl_move rfl rfl ?_
              refine wl_fieldAddr rfl fo_33_1 rfl ?_
              refine wl_load rfl ag_3 (by first | assumption | exact hS1.cell 0 rfl rfl) rfl ?_
              refine wl_fieldAddr rfl fo_33_2 rfl ?_
              refine wl_load rfl ag_3 (by first | assumption | exact hS1.cell 0 rfl rfl) rfl ?_
              refine wl_fieldAddr rfl fo_33_3 rfl ?_
              refine wl_load rfl ag_9 (by first | assumption | exact hS1.cell 0 rfl rfl) rfl ?_
              have hC14 := hS1.split [1] [false, true, false] rfl; dsimp only [selF, pickA, nthA, List.cons_append, List.nil_append] at hC14
              refine wl_call cal_35 rfl (writeRT hC14 a.f a.n a.s hs) rfl ?_
              rintro e w14 ⟨_, rfl, rfl, hS14⟩; refine ⟨_, rfl, ?_⟩
              replace hS14 := hS14.join rfl; dsimp only [List.dropLast, List.cons_append, List.nil_append] at hS14; clear hC14
              clear hS1
              refine wl_assign rfl rfl ?_
              refine wl_nil ?_
              refine qs_seq ?_
              refine wc_sub (L' := [(4, _)]) (.cons rfl .nil) ?_
              refine wc_ret ?_
              refine qs_block_ret ?_
              refine qs_then_ret ?_
              refine fin1 (.inr rfl) rfl rfl ?_
              exact ⟨_, rfl, by simp [doE, *], by simp only [doD]; simp only [*, if_true, if_false, reduceIte, Int.reduceEq]; exact hS14.pick [0, 2] rfl⟩

theorem act_cells {b off n cap i : Nat} {l : List ActD} {a : ActD} {w : World} (h : ActsRd (.slice (some ⟨b, off, none⟩) n cap) l w) (ha : l[i]? = some a) : ∀ (j : Nat) (u : Value), (actV a)[j]? = some u → w.cell? ⟨b, off + i * 5 + j, none⟩ = some u := by
  obtain ⟨⟨b2, o2, e, hc⟩, _⟩ := h.get ha
  cases e; exact hc
theorem few_s {l : List ActD} (h : fewB l = true) {i : Nat} {a : ActD} (ha : l[i]? = some a) : a.s.length ≤ 300 := by
  simp only [fewB, Bool.and_eq_true, List.all_eq_true] at h
  have := h.1 a (List.mem_of_getElem? ha)
  simp [okA] at this
  omega
theorem sync_old {w : World} {p : Nat} {kp : Value} {D D' : DS} {F : Th} (h : Kept p kp D D' F w) (hK : Ent F (RdI kp D.keep)) (hl : D'.keep.length ≤ 1000) (f : Int) : Calls Try.prog 18 #[ptrV p 0, intV f] w (Ret fun v w' => Sat w' [F]) := by
  rcases h with ⟨h1, h2⟩ | ⟨kv', h2⟩
  · exact (Sync_sp h2 (by rw [h1]; exact hK) f).mono fun e w' h => h.mono fun v w' ⟨_, h3⟩ => h3.tail
  · have hC := h2.split [0] [true, false, false] rfl; dsimp only [selF, pickA, nthA, List.cons_append, List.nil_append] at hC
    refine (Sync_sp hC (keep_ent hl) f).mono fun e w' h => h.mono fun v w' ⟨_, h3⟩ => ?_
    exact (h3.join rfl).pick [2] rfl
theorem doD_keep {D : DS} {a : ActD} (h1 : D.keep.length ≤ 1000) (h2 : a.ks.length ≤ 1000) : (doD D a).keep.length ≤ 1000 := by
  by_cases h5 : a.d % 8 = 5
  · have e : (doD D a).keep = a.ks := by simp [doD, h5]
    rw [e]; exact h2
  · have e : (doD D a).keep = D.keep := by
      simp only [doD, if_neg h5]
      split; exact SyncD_keep _ _
      split; exact TruncD_keep _ _ _
      split; rfl
      split; exact crashD_keep _ _
      split; rfl
      exact WriteD_keep _ _ _ _
    rw [e]; exact h1
theorem tells_start {w : World} {p r : Nat} {F : Th} (h : Sat w [refT r (.slice none 0 0) newD, diskT p (.slice none 0 0) newD, F]) : Sat w [dT p newD, rT r newD, F] := by
  have h1 := rT_shut (.slice none 0 0) (by simp [newD]) (((h.row_nil inC)).reorder [1, 0, 2, 3] rfl)
  have h2 := h1.new (Only.refl [] w) (A := ownT (.slice none 0 0) 0 1 []) (F' := fun k => k ∈ ([] : List Nat)) ⟨[], rfl, Own.nil w 1⟩ (by simp)
  have h3 := dT_shut (.slice none 0 0) (by simp [newD]) (h2.reorder [2, 0, 1, 3] rfl)
  exact h3
theorem tells_copy {w : World} {p r : Nat} {D : DS} {kp : Value} {F : Th} (hl : D.keep.length ≤ 1000) (h : Sat w [diskT p kp D, ownT kp D.keep.length 1 (intsV D.keep), rT r D, F]) : Sat w [dT p D, rT r D, F] := dT_shut kp hl h
set_option maxRecDepth 100000 in
set_option maxHeartbeats 400000 in
theorem tells_law {w : World} {F : Th} (hS : Sat w [F]) {lv : Value} {l : List ActD} (f at_ size : Int) (hL : Ent F (ActsRd lv l)) :
    Calls Try.prog 3 #[lv, intV f, intV at_, intV size] w (Ret fun v w' => v = .bool true ∧ Sat w' [F]) := by
  obtain ⟨ao, cap, rfl, hmax⟩ := (hL.sat hS 0 rfl).shape
  refine calls_enter Try.func3 rfl Try.ntmps3 rfl ?_
  refine wc_seq ?_
  refine wc_region ?_
  refine wl_assign rfl rfl ?_
  refine wl_nil ?_
  refine qs_seq ?_
  refine wc_seq ?_
  refine wc_region ?_
  have hC1 := hS.split [] [false] rfl; dsimp only [selF, pickA, nthA, List.cons_append, List.nil_append] at hC1
  refine wl_call cal_7 rfl (small_sp hC1) rfl ?_
  rintro e w1 ⟨_, rfl, rfl, hS1⟩; refine ⟨_, rfl, ?_⟩
  replace hS1 := hS1.join rfl; dsimp only [List.dropLast, List.cons_append, List.nil_append] at hS1; clear hC1
  refine wl_assign rfl rfl ?_
  refine wl_nil ?_
  refine qs_seq ?_
  refine wc_seq ?_
  refine wc_seq ?_
  refine wc_region ?_
  refine wl_move rfl rfl ?_
  have hC2 := hS1.split [] [false] rfl; dsimp only [selF, pickA, nthA, List.cons_append, List.nil_append] at hC2
  refine wl_call cal_8 rfl (few_sp hC2 (hL.starL 0 rfl)) rfl ?_
  rintro e w2 ⟨_, rfl, rfl, hS2⟩; refine ⟨_, rfl, ?_⟩
  replace hS2 := hS2.join rfl; dsimp only [List.dropLast, List.cons_append, List.nil_append] at hS2; clear hC2
  clear hS1
  refine wl_not rfl rfl ?_
  refine wl_nil ?_
  refine qs_seq ?_
  refine wc_cond rfl (fun h3 => ?_) (fun h3 => ?_)
  · skip
    refine wc_seq ?_
    refine wc_region ?_
    refine wl_move rfl rfl ?_
    refine wl_assign rfl rfl ?_
    refine wl_nil ?_
    refine qs_seq ?_
    refine wc_sub (L' := [(8, _), (9, _), (0, _), (1, _), (2, _), (3, _)]) (.cons rfl (.cons rfl (.cons rfl (.cons rfl (.cons rfl (.cons rfl .nil)))))) ?_
    refine wc_ret ?_
    refine qs_then_ret ?_
    refine fin1 (.inr rfl) rfl rfl ?_
    exact ⟨_, rfl, rfl, hS2⟩
  · skip
    have hfew : fewB l = true := by simpa using h3
    refine wc_skip ?_
    refine qs_seq ?_
    refine wc_seq ?_
    refine wc_region ?_
    have hC4 := hS2.split [] [false] rfl; dsimp only [selF, pickA, nthA, List.cons_append, List.nil_append] at hC4
    refine wl_call cal_9 rfl (new_sp hC4) rfl ?_
    rintro e w4 ⟨_, rfl, p, rfl, hS4⟩; refine ⟨_, rfl, ?_⟩
    replace hS4 := hS4.join rfl; dsimp only [List.dropLast, List.cons_append, List.nil_append] at hS4; clear hC4
    clear hS2
    refine wl_assign rfl rfl ?_
    refine wl_nil ?_
    refine qs_seq ?_
    refine wc_sub (L' := [(10, _), (9, _), (8, _), (0, _), (1, _), (2, _), (3, _)]) (.cons rfl (.cons rfl (.cons rfl (.cons rfl (.cons rfl (.cons rfl (.cons rfl .nil))))))) ?_
    refine wc_seq ?_
    refine wc_region ?_
    have hC5 := hS4.split [] [false, false] rfl; dsimp only [selF, pickA, nthA, List.cons_append, List.nil_append] at hC5
    refine wl_call cal_10 rfl (newR_sp hC5) rfl ?_
    rintro e w5 ⟨_, rfl, r, rfl, hS5⟩; refine ⟨_, rfl, ?_⟩
    replace hS5 := hS5.join rfl; dsimp only [List.dropLast, List.cons_append, List.nil_append] at hS5; clear hC5
    clear hS4
    refine wl_assign rfl rfl ?_
    refine wl_nil ?_
    refine qs_seq ?_
    refine wc_seq ?_
    refine wc_seq ?_
    refine wc_region ?_
    refine wl_move rfl rfl ?_
    refine wl_eqlNil Try.underlying25 rfl rfl rfl ?_
    refine wl_nil ?_
    refine qs_seq ?_
    refine wc_condF rfl ?_
    refine wc_skip ?_
    refine qs_seq ?_
    refine wc_sub (L' := [(11, _), (10, _), (9, _), (8, _), (0, _), (1, _), (2, _), (3, _)]) (.cons rfl (.cons rfl (.cons rfl (.cons rfl (.cons rfl (.cons rfl (.cons rfl (.cons rfl .nil)))))))) ?_
    refine wc_seq ?_
    refine wc_seq ?_
    refine wc_region ?_
    refine wl_assign rfl rfl ?_
    refine wl_nil ?_
    refine qs_seq ?_
    refine wc_block ?_
    refine wc_loop (fun K0 E0 W0 => ∃ (i p : Nat) (D : DS), K0 = l.length - i ∧ E0 = [(0, .slice ao l.length cap), (1, intV f), (2, intV at_), (3, intV size), (9, .bool true), (10, ptrV p 0), (11, ptrV r 0), (12, intV (i : Int))] ∧ Sat W0 [dT p D, rT r D, F] ∧ (i ≤ l.length)) (L0 := [(0, _), (1, _), (2, _), (3, _), (9, _), (10, _), (11, _), (12, _)]) (l.length) (.cons rfl (.cons rfl (.cons rfl (.cons rfl (.cons rfl (.cons rfl (.cons rfl (.cons rfl .nil)))))))) ⟨0, p, newD, by omega, rfl, tells_start hS5, by omega⟩ ?_
    rintro _ _ w6 ⟨i, p, D, rfl, rfl, hS6, hi⟩
    refine wc_seq ?_
    refine wc_seq ?_
    refine wc_region ?_
    refine wl_move rfl rfl ?_
    refine wl_move rfl rfl ?_
    refine wl_lenL Try.underlying22 rfl rfl ?_
    refine wl_lss rfl rfl rfl ?_
    refine wl_nil ?_
    refine qs_seq ?_
    refine wc_sub (L' := [(30, _), (0, _), (1, _), (2, _), (3, _), (9, _), (10, _), (11, _), (12, _)]) (.cons rfl (.cons rfl (.cons rfl (.cons rfl (.cons rfl (.cons rfl (.cons rfl (.cons rfl (.cons rfl .nil))))))))) ?_
    refine wc_condD rfl (fun h7 => ?_) (fun h7 => ?_)
    · skip
      obtain ⟨a, ha⟩ : ∃ a, l[i]? = some a := ⟨_, List.getElem?_eq_getElem (by omega)⟩
      obtain ⟨a0, ha0⟩ : ∃ a, l[0]? = some a := ⟨_, List.getElem?_eq_getElem (by omega)⟩
      have hrd := hL.sat hS6 2 rfl
      obtain ⟨_, _, hn0⟩ := hrd.get ha0
      obtain ⟨⟨b, off, rfl, hc⟩, hrk, hn⟩ := hrd.get ha
      clear hrd hc
      refine wc_skip ?_
      refine qs_seq ?_
      refine wc_seq ?_
      refine wc_block ?_
      refine wc_seq ?_
      refine wc_seq ?_
      have hS8 := hS6.drew
      refine wc_draw [0, 1, 2, 3, 4, 6, 7, 8, 9, 10, 5, 11, 12, 13, 14, 16, 15, 17, 18, 19, 20, 21, 22, 24, 25, 23, 26, 27, 28] [5, 11, 15, 17, 23, 26] mix (by kernel_rfl) ?_
      refine vc_p rfl rfl rfl (fun _ => (ev_move rfl)) ?_
      refine vc_p rfl rfl rfl (fun _ => (ev_move rfl)) ?_
      refine vc_p rfl rfl rfl (fun _ => (ev_move rfl)) ?_
      refine vc_p rfl rfl rfl (fun _ => (ev_indexAddr _ rfl rfl (by first | rfl | omega) (by omega) es_22)) ?_
      refine vc_q rfl rfl rfl (ev_loadAt rfl ag_33 sz_33 (vs := actV a) (act_cells (hL.sat hS8 2 rfl) ha)) ?_
      refine vc_p rfl rfl rfl (fun _ => (ev_move rfl)) ?_
      refine vc_p rfl rfl rfl (fun _ => (ev_move rfl)) ?_
      refine vc_p rfl rfl rfl (fun _ => (ev_move rfl)) ?_
      refine vc_p rfl rfl rfl (fun _ => (ev_indexAddr _ rfl rfl (by first | rfl | omega) (by omega) es_22)) ?_
      refine vc_q rfl rfl rfl (ev_loadAt rfl ag_33 sz_33 (vs := actV a) (act_cells (hL.sat hS8 2 rfl) ha)) ?_
      refine vc_s rfl rfl rfl rfl rfl rfl ?_
      have hC9 := hS8.split [0] [true, false, false] rfl; dsimp only [selF, pickA, nthA, List.cons_append, List.nil_append] at hC9
      refine wl_call cal_11 rfl (doT_sp hC9 a (act_ent (hL.starL 1 rfl) ha) (few_ok hfew ha hn)) rfl ?_
      rintro e w9 ⟨_, rfl, rfl, hS9⟩; refine ⟨_, rfl, ?_⟩
      replace hS9 := hS9.join rfl; dsimp only [List.dropLast, List.cons_append, List.nil_append] at hS9; clear hC9
      clear hS8
      refine vc_e (.cons (.inl ⟨rfl, (ev_loadAt rfl ag_33 sz_33 (vs := actV a) (act_cells (hL.sat hS9 2 rfl) ha))⟩) (.skip (by kernel_rfl) .nil)) ?_
      refine vc_s rfl rfl rfl rfl rfl rfl ?_
      have hC10 := hS9.split [1] [false, true, false] rfl; dsimp only [selF, pickA, nthA, List.cons_append, List.nil_append] at hC10
      refine wl_call cal_12 rfl (tell_sp hC10 a (fun g => RdI.toL ((act_ent (hL.starL 1 rfl) ha) g)) hn (by have := (few_ok hfew ha hn).1; omega) (by have := few_s hfew ha; omega)) rfl ?_
      rintro e w10 ⟨_, rfl, rfl, hS10⟩; refine ⟨_, rfl, ?_⟩
      replace hS10 := hS10.join rfl; dsimp only [List.dropLast, List.cons_append, List.nil_append] at hS10; clear hC10
      clear hS9
      refine vc_e (.skip (by kernel_rfl) (.skip (by kernel_rfl) .nil)) ?_
      refine vc_p rfl rfl rfl (fun _ => (ev_neq rfl rfl)) ?_
      refine vc_p rfl rfl rfl (fun _ => (ev_move rfl)) ?_
      refine vc_splitD 46 rfl (fun h11 => ?_) (fun h11 => ?_)
      · skip
        exact absurd rfl h11
      · skip
        refine vc_p rfl rfl (guard_yes rfl rfl (decide_eq_false h11)) (fun _ => (Ev.gd (ev_move rfl))) ?_
        refine vc_p rfl rfl (guard_yes rfl rfl (decide_eq_false h11)) (fun _ => (Ev.gd (ev_move rfl))) ?_
        refine vc_s rfl rfl (guard_yes rfl rfl (decide_eq_false h11)) rfl rfl rfl ?_
        have hC12 := hS10.split [1] [false, true, false] rfl; dsimp only [selF, pickA, nthA, List.cons_append, List.nil_append] at hC12
        refine wl_call cal_13 rfl (downT hC12) rfl ?_
        rintro e w12 ⟨_, rfl, rfl, hS12⟩; refine ⟨_, rfl, ?_⟩
        replace hS12 := hS12.join rfl; dsimp only [List.dropLast, List.cons_append, List.nil_append] at hS12; clear hC12
        clear hS10
        refine vc_e (.skip (by kernel_rfl) (.skip (by kernel_rfl) .nil)) ?_
        refine vc_s rfl rfl (guard_yes rfl rfl (decide_eq_false h11)) rfl rfl rfl ?_
        have hC13 := hS12.split [1] [false, true, false] rfl; dsimp only [selF, pickA, nthA, List.cons_append, List.nil_append] at hC13
        refine wl_call cal_14 rfl (downRT hC13) rfl ?_
        rintro e w13 ⟨_, rfl, rfl, hS13⟩; refine ⟨_, rfl, ?_⟩
        replace hS13 := hS13.join rfl; dsimp only [List.dropLast, List.cons_append, List.nil_append] at hS13; clear hC13
        clear hS12
        refine vc_e (.skip (by kernel_rfl) (.skip (by kernel_rfl) .nil)) ?_
        refine vc_p rfl rfl (guard_yes rfl rfl (decide_eq_false h11)) (fun _ => (Ev.gd (ev_neqB Try.underlying4 rfl rfl))) ?_
        refine vc_p rfl rfl rfl (fun _ => (ev_pickF rfl (decide_eq_false h11) rfl)) ?_
        refine vc_p rfl rfl rfl (fun _ => (ev_move rfl)) ?_
        refine vc_split 53 rfl (fun h14 => ?_) (fun h14 => ?_)
        · skip
          simp at h14
        · skip
          refine vc_p rfl rfl (guard_yes rfl rfl h14) (fun _ => (Ev.gd (ev_move rfl))) ?_
          refine vc_p rfl rfl (guard_yes rfl rfl h14) (fun _ => (Ev.gd (ev_move rfl))) ?_
          refine vc_p rfl rfl (guard_yes rfl rfl h14) (fun _ => (Ev.gd (ev_move rfl))) ?_
          refine vc_p rfl rfl (guard_yes rfl rfl h14) (fun _ => (Ev.gd (ev_move rfl))) ?_
          refine vc_s rfl rfl (guard_yes rfl rfl h14) rfl rfl rfl ?_
          have hC15 := hS13.split [1] [false, true, false] rfl; dsimp only [selF, pickA, nthA, List.cons_append, List.nil_append] at hC15
          refine wl_call cal_15 rfl (sizeT hC15 f) rfl ?_
          rintro e w15 ⟨_, rfl, rfl, hS15⟩; refine ⟨_, rfl, ?_⟩
          replace hS15 := hS15.join rfl; dsimp only [List.dropLast, List.cons_append, List.nil_append] at hS15; clear hC15
          clear hS13
          refine vc_e (.skip (by kernel_rfl) (.skip (by kernel_rfl) .nil)) ?_
          refine vc_s rfl rfl (guard_yes rfl rfl h14) rfl rfl rfl ?_
          have hC16 := hS15.split [1] [false, true, false] rfl; dsimp only [selF, pickA, nthA, List.cons_append, List.nil_append] at hC16
          refine wl_call cal_16 rfl (sizeRT hC16 f) rfl ?_
          rintro e w16 ⟨_, rfl, rfl, hS16⟩; refine ⟨_, rfl, ?_⟩
          replace hS16 := hS16.join rfl; dsimp only [List.dropLast, List.cons_append, List.nil_append] at hS16; clear hC16
          clear hS15
          refine vc_e (.skip (by kernel_rfl) (.skip (by kernel_rfl) .nil)) ?_
          refine vc_p rfl rfl (guard_yes rfl rfl h14) (fun _ => (Ev.gd (ev_neq rfl rfl))) ?_
          refine vc_p rfl rfl rfl (fun _ => (ev_pickF rfl h14 rfl)) ?_
          refine VC.nil ?_
          refine qs_seq ?_
          refine wc_sub (L' := [(61, _), (0, _), (1, _), (2, _), (3, _), (9, _), (10, _), (11, _), (12, _)]) (.cons rfl (.cons rfl (.cons rfl (.cons rfl (.cons rfl (.cons rfl (.cons rfl (.cons rfl (.cons rfl .nil))))))))) ?_
          refine wc_condD rfl (fun h17 => ?_) (fun h17 => ?_)
          · skip
            exact absurd rfl h17
          · skip
            refine wc_skip ?_
            refine qs_seq ?_
            refine wc_seq ?_
            refine wc_region ?_
            refine wl_move rfl rfl ?_
            refine wl_move rfl rfl ?_
            refine wl_lenL Try.underlying22 rfl rfl ?_
            refine wl_quo rfl rfl (by omega) (by omega) (by omega) rfl ?_
            refine wl_eql rfl rfl rfl ?_
            refine wl_nil ?_
            refine qs_seq ?_
            refine wc_sub (L' := [(66, _), (0, _), (1, _), (2, _), (3, _), (9, _), (10, _), (11, _), (12, _)]) (.cons rfl (.cons rfl (.cons rfl (.cons rfl (.cons rfl (.cons rfl (.cons rfl (.cons rfl (.cons rfl .nil))))))))) ?_
            refine wc_condD rfl (fun h18 => ?_) (fun h18 => ?_)
            · skip
              refine wc_seq ?_
              obtain ⟨kp, hkl, hS16⟩ := dT_open (hS16.pull 1 rfl); dsimp only [List.eraseIdx] at hS16
              refine wc_region ?_
              refine wl_move rfl rfl ?_
              have hC19 := hS16.split [0] [true, false, false, false] rfl; dsimp only [selF, pickA, nthA, List.cons_append, List.nil_append] at hC19
              refine wl_call cal_17 rfl (copy_sp hC19 (Ent.starL (A := ownT kp (doD D a).keep.length 1 (intsV (doD D a).keep)) (ent_own_RdI (by omega)) 0 rfl)) rfl ?_
              rintro e w19 ⟨_, rfl, p2, rfl, hS19⟩; refine ⟨_, rfl, ?_⟩
              replace hS19 := hS19.join rfl; dsimp only [List.dropLast, List.cons_append, List.nil_append] at hS19; clear hC19
              clear hS16
              refine wl_assign rfl rfl ?_
              refine wl_nil ?_
              refine qs_seq ?_
              refine wc_sub (L' := [(13, _), (0, _), (1, _), (2, _), (3, _), (9, _), (10, _), (11, _), (12, _)]) (.cons rfl (.cons rfl (.cons rfl (.cons rfl (.cons rfl (.cons rfl (.cons rfl (.cons rfl (.cons rfl .nil))))))))) ?_
              refine wc_seq ?_
              refine wc_seq ?_
              refine wc_region ?_
              refine wl_move rfl rfl ?_
              refine wl_eqlNil Try.underlying25 rfl rfl rfl ?_
              refine wl_nil ?_
              refine qs_seq ?_
              refine wc_condF rfl ?_
              refine wc_skip ?_
              refine qs_seq ?_
              refine wc_seq ?_
              refine wc_region ?_
              refine wl_move rfl rfl ?_
              refine wl_move rfl rfl ?_
              refine wl_indexAddr 0 rfl rfl (by first | rfl | omega) (by omega) es_22 rfl ?_
              refine wl_loadAt rfl ag_33 sz_33 (vs := actV a0) (fun j u hu => by have := act_cells (hL.sat hS19 4 rfl) ha0 j u hu; simpa using this) rfl ?_
              have hC := hS19.split [1] [false, true, false, false, false] rfl; dsimp only [selF, pickA, nthA, List.cons_append, List.nil_append] at hC
              have hKo : Ent (starL [diskT p2 kp (doD D a), ownT kp (doD D a).keep.length 1 (intsV (doD D a).keep), rT r (doD D a), F]) (RdI kp (doD D a).keep) := Ent.starL (A := ownT kp (doD D a).keep.length 1 (intsV (doD D a).keep)) (ent_own_RdI (by omega)) 1 rfl
              refine wl_call cal_11 rfl (do_sp hC hKo a0 (act_ent (hL.starL 3 rfl) ha0) hn0 (by have := (few_ok hfew ha0 hn0).1; omega)) rfl ?_
              rintro e w17 ⟨_, rfl, rfl, hkept⟩; refine ⟨_, rfl, ?_⟩
              refine wl_nil ?_
              refine qs_seq ?_
              refine wc_sub (L' := [(13, _), (0, _), (1, _), (2, _), (3, _), (9, _), (10, _), (11, _), (12, _)]) (.cons rfl (.cons rfl (.cons rfl (.cons rfl (.cons rfl (.cons rfl (.cons rfl (.cons rfl (.cons rfl .nil))))))))) ?_
              refine wc_seq ?_
              refine wc_region ?_
              refine wl_move rfl rfl ?_
              refine wl_move rfl rfl ?_
              refine wl_call cal_18 rfl (sync_old hkept hKo (doD_keep hkl (by have := (few_ok hfew ha0 hn0).1; omega)) f) rfl ?_
              rintro e w18 ⟨_, rfl, hS18⟩; refine ⟨_, rfl, ?_⟩
              replace hS18 := hS18.flat; dsimp only [List.cons_append, List.nil_append] at hS18
              refine wl_nil ?_
              refine qs_seq ?_
              refine wc_sub (L' := [(13, _), (0, _), (1, _), (2, _), (3, _), (9, _), (10, _), (11, _), (12, _)]) (.cons rfl (.cons rfl (.cons rfl (.cons rfl (.cons rfl (.cons rfl (.cons rfl (.cons rfl (.cons rfl .nil))))))))) ?_
              refine wc_region ?_
              refine wl_move rfl rfl ?_
              refine wl_assign rfl rfl ?_
              refine wl_nil ?_
              refine qs_block_normal ?_
              refine qs_seq ?_
              refine wc_region ?_
              refine wl_move rfl rfl ?_
              refine wl_add rfl rfl (by omega) (by omega) rfl ?_
              refine wl_assign rfl rfl ?_
              refine wl_nil ?_
              exact qs_round (L1 := [(0, _), (1, _), (2, _), (3, _), (9, .bool true), (10, _), (11, _), (12, intV ((i + 1 : Nat) : Int))]) (.cons rfl (.cons rfl (.cons rfl (.cons rfl (.cons rfl (.cons rfl (.cons rfl (.cons rfl .nil)))))))) (k1 := l.length - (i + 1)) (by omega) ⟨i + 1, _, _, by omega, rfl, tells_copy hkl hS18, by omega⟩
            · skip
              refine wc_skip ?_
              refine qs_block_normal ?_
              refine qs_seq ?_
              refine wc_region ?_
              refine wl_move rfl rfl ?_
              refine wl_add rfl rfl (by omega) (by omega) rfl ?_
              refine wl_assign rfl rfl ?_
              refine wl_nil ?_
              exact qs_round (L1 := [(0, _), (1, _), (2, _), (3, _), (9, .bool true), (10, _), (11, _), (12, intV ((i + 1 : Nat) : Int))]) (.cons rfl (.cons rfl (.cons rfl (.cons rfl (.cons rfl (.cons rfl (.cons rfl (.cons rfl .nil)))))))) (k1 := l.length - (i + 1)) (by omega) ⟨i + 1, _, _, by omega, rfl, hS16.reorder [1, 0, 2] rfl, by omega⟩
    · skip
      refine wc_exit ?_
      refine qs_then_exit ?_
      refine qs_then_exit ?_
      refine qs_block_exit ?_
      refine qs_seq ?_
      refine wc_seq ?_
      refine wc_region ?_
      refine wl_move rfl rfl ?_
      refine wl_move rfl rfl ?_
      refine wl_move rfl rfl ?_
      refine wl_move rfl rfl ?_
      have hC20 := hS6.split [0] [true, false, false] rfl; dsimp only [selF, pickA, nthA, List.cons_append, List.nil_append] at hC20
      refine wl_call cal_19 rfl (readT hC20 f at_ size) rfl ?_
      rintro e w20 ⟨_, rfl, rfl, hS20⟩; refine ⟨_, rfl, ?_⟩
      replace hS20 := hS20.join rfl; dsimp only [List.dropLast, List.cons_append, List.nil_append] at hS20; clear hC20
      clear hS6
      refine wl_move rfl rfl ?_
      refine wl_extract rfl rfl rfl ?_
      refine wl_extract rfl rfl rfl ?_
      refine wl_assign rfl rfl ?_
      refine wl_assign rfl rfl ?_
      refine wl_nil ?_
      refine qs_seq ?_
      refine wc_sub (L' := [(15, _), (14, _), (1, _), (2, _), (3, _), (9, _), (11, _)]) (.cons rfl (.cons rfl (.cons rfl (.cons rfl (.cons rfl (.cons rfl (.cons rfl .nil))))))) ?_
      refine wc_seq ?_
      refine wc_region ?_
      refine wl_move rfl rfl ?_
      refine wl_move rfl rfl ?_
      refine wl_move rfl rfl ?_
      refine wl_move rfl rfl ?_
      have hC21 := hS20.split [1] [false, true, false] rfl; dsimp only [selF, pickA, nthA, List.cons_append, List.nil_append] at hC21
      refine wl_call cal_20 rfl (readRT hC21 f at_ size) rfl ?_
      rintro e w21 ⟨_, rfl, rfl, hS21⟩; refine ⟨_, rfl, ?_⟩
      replace hS21 := hS21.join rfl; dsimp only [List.dropLast, List.cons_append, List.nil_append] at hS21; clear hC21
      clear hS20
      refine wl_move rfl rfl ?_
      refine wl_extract rfl rfl rfl ?_
      refine wl_extract rfl rfl rfl ?_
      refine wl_assign rfl rfl ?_
      refine wl_assign rfl rfl ?_
      refine wl_nil ?_
      refine qs_seq ?_
      refine wc_sub (L' := [(17, _), (16, _), (15, _), (14, _), (9, _)]) (.cons rfl (.cons rfl (.cons rfl (.cons rfl (.cons rfl .nil))))) ?_
      refine wc_seq ?_
      refine wc_region ?_
      refine wl_move rfl rfl ?_
      refine wl_move rfl rfl ?_
      refine wl_guard rfl rfl rfl ?_
      refine wl_move rfl rfl ?_
      refine wl_guard rfl rfl rfl ?_
      refine wl_move rfl rfl ?_
      refine wl_guard rfl rfl rfl ?_
      refine wl_eqlS rfl rfl rfl ?_
      refine wl_pickT rfl rfl rfl rfl ?_
      refine wl_move rfl rfl ?_
      refine wl_splitD 102 rfl (fun h22 => ?_) (fun h22 => ?_)
      · skip
        refine wl_guard rfl rfl (decide_eq_true h22) ?_
        refine wl_move rfl rfl ?_
        refine wl_guard rfl rfl (decide_eq_true h22) ?_
        refine wl_move rfl rfl ?_
        refine wl_guard rfl rfl (decide_eq_true h22) ?_
        refine wl_eql rfl rfl rfl ?_
        refine wl_pickT rfl (decide_eq_true h22) rfl rfl ?_
        refine wl_assign rfl rfl ?_
        refine wl_nil ?_
        refine qs_seq ?_
        refine wc_sub (L' := [(8, _)]) (.cons rfl .nil) ?_
        refine wc_ret ?_
        refine fin1 (.inr rfl) rfl rfl ?_
        exact ⟨_, rfl, by simp, hS21.tail.tail⟩
      · skip
        exact absurd rfl h22

theorem tells_row {W : World} {v0 : Value} {f a n : Int} {l0 : List (Int × Int × Int × ByteArray × List Int × Unit)} (h0 : SliceRd actC.rd actC.size W v0 l0) :
    Calls Try.prog 3 #[v0, .int .i64 f, .int .i64 a, .int .i64 n] W fun e W' => e = .returned (.bool true) ∧ Below W.heap.size W W' := by
  obtain ⟨a0, h0⟩ := acts_of h0
  exact (tells_law (Sat.start W) f a n (Ent.frame h0)).mono fun e W' ⟨v, h4, h5, h6⟩ => ⟨by rw [h4, h5], below_of h6⟩
end Go.Proofs.Ytleaahajkncnpaa
