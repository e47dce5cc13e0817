/- laws of cell: CellLasts -/
import Derived.Test.YtleaahajkncnpaaDoorCg
namespace Go.Proofs.YtleaahajkncnpaaDoor
open Go.RowKit M
set_option linter.unusedVariables false
set_option maxRecDepth 100000 in
set_option maxHeartbeats 1000000 in
theorem lasts_law {w : World} {F : Th} (hS : Sat w [F]) (hG : Ent F (Glob 0)) {lv kv : Value} {l : List OpD} {ks : List Int} (hL : Ent F (OpsRd lv l)) (hK : Ent F (RdI kv ks)) :
    Calls Tryd.prog 6 #[lv, kv] w (Ret fun v w' => v = .bool true ∧ Sat w' [F]) := by
  obtain ⟨ao, cap, rfl, hmax⟩ := (hL.sat hS 0 rfl).shape
  obtain ⟨aok, capk, rfl, hkm⟩ := (hK.sat hS 0 rfl).shape
  refine calls_enter Tryd.func6 rfl Tryd.ntmps6 rfl ?_
  refine wc_seq ?_
  refine wc_region ?_
  refine wl_assign rfl rfl ?_
  refine wl_nil ?_
  refine qs_seq ?_
  refine wc_seq ?_
  refine wc_region ?_
  have hC1 := hS.split [] [false] rfl; dsimp only [selF, pickA, nthA, List.cons_append, List.nil_append] at hC1
  refine wl_call cal_8 rfl (small_sp hC1 (hG.starL 0 rfl)) rfl ?_
  rintro e w1 ⟨_, rfl, rfl, hS1⟩; refine ⟨_, rfl, ?_⟩
  replace hS1 := hS1.join rfl; dsimp only [List.dropLast, List.cons_append, List.nil_append] at hS1; clear hC1
  refine wl_assign rfl rfl ?_
  refine wl_nil ?_
  refine qs_seq ?_
  refine wc_seq ?_
  refine wc_region ?_
  refine wl_move rfl rfl ?_
  have hC2 := hS1.split [] [false] rfl; dsimp only [selF, pickA, nthA, List.cons_append, List.nil_append] at hC2
  refine wl_call cal_17 rfl (few_sp hC2 (hL.starL 0 rfl)) rfl ?_
  rintro e w2 ⟨_, rfl, rfl, hS2⟩; refine ⟨_, rfl, ?_⟩
  replace hS2 := hS2.join rfl; dsimp only [List.dropLast, List.cons_append, List.nil_append] at hS2; clear hC2
  clear hS1
  refine wl_assign rfl rfl ?_
  refine wl_nil ?_
  refine qs_seq ?_
  refine wc_seq ?_
  refine wc_seq ?_
  refine wc_region ?_
  refine wl_move rfl rfl ?_
  refine wl_not rfl rfl ?_
  refine wl_move rfl rfl ?_
  refine wl_split 21 rfl (fun h3 => ?_) (fun h3 => ?_)
  · skip
    skip
    refine wl_unwanted rfl rfl h3 rfl ?_
    refine wl_unwanted rfl rfl h3 rfl ?_
    refine wl_unwanted rfl rfl h3 rfl ?_
    refine wl_pickT rfl h3 rfl rfl ?_
    refine wl_nil ?_
    refine qs_seq ?_
    refine wc_sub (L' := [(25, _), (5, _), (4, _), (0, _), (1, _)]) (.cons rfl (.cons rfl (.cons rfl (.cons rfl (.cons rfl .nil))))) ?_
    refine wc_condT rfl ?_
    refine wc_seq ?_
    refine wc_region ?_
    refine wl_move rfl rfl ?_
    refine wl_assign rfl rfl ?_
    refine wl_nil ?_
    refine qs_seq ?_
    refine wc_ret ?_
    refine qs_then_ret ?_
    refine fin1 (.inr rfl) rfl rfl ?_
    exact ⟨_, rfl, rfl, hS2.pick [0] rfl⟩
  · skip
    have hfew : fewO l = true := by simpa using h3
    refine wl_guard rfl rfl h3 ?_
    refine wl_move rfl rfl ?_
    refine wl_guard rfl rfl h3 ?_
    refine wl_lenL Tryd.underlying39 rfl rfl ?_
    refine wl_guard rfl rfl h3 ?_
    refine wl_gtr rfl rfl rfl ?_
    refine wl_pickF rfl h3 rfl rfl ?_
    refine wl_nil ?_
    refine qs_seq ?_
    refine wc_sub (L' := [(25, _), (5, _), (4, _), (0, _), (1, _)]) (.cons rfl (.cons rfl (.cons rfl (.cons rfl (.cons rfl .nil))))) ?_
    refine wc_condD rfl (fun h4 => ?_) (fun h4 => ?_)
    · skip
      refine wc_seq ?_
      refine wc_region ?_
      refine wl_move rfl rfl ?_
      refine wl_assign rfl rfl ?_
      refine wl_nil ?_
      refine qs_seq ?_
      refine wc_ret ?_
      refine qs_then_ret ?_
      refine fin1 (.inr rfl) rfl rfl ?_
      exact ⟨_, rfl, rfl, hS2.pick [0] rfl⟩
    · skip
      have hkl : ks.length ≤ 100 := by omega
      refine wc_skip ?_
      refine qs_seq ?_
      refine wc_seq ?_
      refine wc_region ?_
      have hC5 := hS2.split [] [false] rfl; dsimp only [selF, pickA, nthA, List.cons_append, List.nil_append] at hC5
      refine wl_call cal_9 rfl (new_sp hC5) rfl ?_
      rintro e w5 ⟨_, rfl, p, rfl, hS5⟩; refine ⟨_, rfl, ?_⟩
      replace hS5 := hS5.join rfl; dsimp only [List.dropLast, List.cons_append, List.nil_append] at hS5; clear hC5
      clear hS2
      replace hS5 := dT_new hS5
      refine wl_assign rfl rfl ?_
      refine wl_nil ?_
      obtain ⟨ho1, ho2, hg0, _⟩ := Good.begin (f := 3) (P := allow true []) (by omega) (.inl ⟨rfl, rfl⟩)
      refine qs_seq ?_
      refine wc_seq ?_
      refine wc_region ?_
      refine wl_move rfl rfl ?_
      have hC6 := hS5.split [0] [true, false] rfl; dsimp only [selF, pickA, nthA, List.cons_append, List.nil_append] at hC6
      refine wl_call cal_13 rfl (open0_sp hC6 (hG.starL 0 rfl) 3 ho1) rfl ?_
      rintro e w6 ⟨_, rfl, c, rfl, hS6⟩; refine ⟨_, rfl, ?_⟩
      replace hS6 := hS6.join rfl; dsimp only [List.dropLast, List.cons_append, List.nil_append] at hS6; clear hC6
      clear hS5
      rw [ho2] at hS6
      refine wl_move rfl rfl ?_
      refine wl_extract rfl rfl rfl ?_
      refine wl_extract rfl rfl rfl ?_
      refine wl_assign rfl rfl ?_
      refine wl_assign rfl rfl ?_
      refine wl_nil ?_
      refine qs_seq ?_
      refine wc_sub (L' := [(9, _), (8, _), (7, _), (5, _), (4, _), (0, _), (1, _)]) (.cons rfl (.cons rfl (.cons rfl (.cons rfl (.cons rfl (.cons rfl (.cons rfl .nil))))))) ?_
      refine wc_seq ?_
      refine wc_seq ?_
      refine wc_region ?_
      refine wl_move rfl rfl ?_
      refine wl_eqlNil Tryd.underlying23 rfl rfl rfl ?_
      refine wl_move rfl rfl ?_
      refine wl_guard rfl rfl rfl ?_
      refine wl_move rfl rfl ?_
      refine wl_guard rfl rfl rfl ?_
      refine wl_eqlNil Tryd.underlying29 rfl rfl rfl ?_
      refine wl_pickF rfl rfl rfl rfl ?_
      refine wl_move rfl rfl ?_
      refine wl_guard rfl rfl rfl ?_
      refine wl_move rfl rfl ?_
      refine wl_guard rfl rfl rfl ?_
      refine wl_neq rfl rfl rfl ?_
      refine wl_pickF rfl rfl rfl rfl ?_
      refine wl_nil ?_
      refine qs_seq ?_
      refine wc_sub (L' := [(42, _), (9, _), (8, _), (7, _), (5, _), (4, _), (0, _), (1, _)]) (.cons rfl (.cons rfl (.cons rfl (.cons rfl (.cons rfl (.cons rfl (.cons rfl (.cons rfl .nil)))))))) ?_
      refine wc_condD rfl (fun h7 => ?_) (fun h7 => ?_)
      · skip
        exact absurd rfl h7
      · skip
        refine wc_skip ?_
        refine qs_seq ?_
        refine wc_seq ?_
        refine wc_region ?_
        refine wl_assign rfl rfl ?_
        refine wl_nil ?_
        refine qs_seq ?_
        refine wc_seq ?_
        refine wc_region ?_
        refine wl_assign rfl rfl ?_
        refine wl_nil ?_
        refine qs_seq ?_
        refine wc_seq ?_
        refine wc_seq ?_
        refine wc_region ?_
        refine wl_assign rfl rfl ?_
        refine wl_nil ?_
        refine qs_seq ?_
        refine wc_block ?_
        refine wc_loop (fun K0 E0 W0 => ∃ (i c : Nat) (D : DS) (C : CS) (mv : Value) (may : List Bytes) (none : Bool), K0 = l.length + 1 - i ∧ E0 = [(0, .slice ao l.length cap), (1, .slice aok ks.length capk), (5, .bool true), (7, ptrV p 0), (8, ptrV c 0), (10, mv), (11, .bool none), (12, intV (i : Int))] ∧ Sat W0 [blkT c (cellV p C), dT p D, rowT stC mv may, F] ∧ (i ≤ l.length + 1) ∧ (OkSt D 3 C (allow none may)) ∧ (C.slot ≤ 2) ∧ (may.length ≤ i)) (L0 := [(0, _), (1, _), (5, _), (7, _), (8, _), (10, _), (11, _), (12, _)]) (l.length + 1) (.cons rfl (.cons rfl (.cons rfl (.cons rfl (.cons rfl (.cons rfl (.cons rfl (.cons rfl .nil)))))))) ⟨0, _, newD, newC 3, _, [], true, by omega, rfl, hS6.row_nil stC |>.reorder [1, 2, 0, 3] rfl, by omega, .inl hg0, by decide, by simp⟩ ?_
        rintro _ _ w8 ⟨i, c, D, C, mv, may, none, rfl, rfl, hS8, hi, hok, hsl, hml⟩
        have hfl := few_len hfew
        refine wc_seq ?_
        refine wc_seq ?_
        refine wc_region ?_
        refine wl_move rfl rfl ?_
        refine wl_move rfl rfl ?_
        first | refine wl_lenL Tryd.underlying38 rfl rfl ?_ | refine wl_lenO 2 hS8 Tryd.underlying38 rfl rfl rfl ?_
        refine wl_leq rfl rfl rfl ?_
        refine wl_nil ?_
        refine qs_seq ?_
        refine wc_sub (L' := [(46, _), (0, _), (1, _), (5, _), (7, _), (8, _), (10, _), (11, _), (12, _)]) (.cons rfl (.cons rfl (.cons rfl (.cons rfl (.cons rfl (.cons rfl (.cons rfl (.cons rfl (.cons rfl .nil))))))))) ?_
        refine wc_condD rfl (fun h9 => ?_) (fun h9 => ?_)
        · skip
          refine wc_skip ?_
          refine qs_seq ?_
          refine wc_seq ?_
          refine wc_block ?_
          refine wc_seq ?_
          refine wc_region ?_
          refine wl_move rfl rfl ?_
          refine wl_buildS rfl pl_42_0_3 asz_42 zr_42 rfl rfl ?_
          refine wl_alloc hS8 zr_42 rfl rfl ?_
          intro b10 w10 hS10
          clear hS8
          first | (refine wl_storeA hS10 rfl rfl sz_42 rfl (by first | rfl | (simp [allOne, Value.oneCell']; done) | assumption | exact hone) (i := 0) rfl (by first | decide | exact Nat.le_of_ble_eq_true rfl | (simp; done) | omega) ?_) | (refine wl_storeA hS10 rfl rfl sz_42 rfl (by first | rfl | (simp [allOne, Value.oneCell']; done) | assumption | exact hone) (i := 1) rfl (by first | decide | exact Nat.le_of_ble_eq_true rfl | (simp; done) | omega) ?_)
          intro w11 hS12; dsimp only [List.set] at hS12
          clear hS10
          refine wl_nil ?_
          refine qs_seq ?_
          refine wc_sub (L' := [(13, _), (0, _), (1, _), (5, _), (7, _), (8, _), (10, _), (11, _), (12, _)]) (.cons rfl (.cons rfl (.cons rfl (.cons rfl (.cons rfl (.cons rfl (.cons rfl (.cons rfl (.cons rfl .nil))))))))) ?_
          refine wc_mid (fun E0 W0 => ∃ (bo : Nat) (a : OpD), E0 = [(0, .slice ao l.length cap), (1, .slice aok ks.length capk), (5, .bool true), (7, ptrV p 0), (8, ptrV c 0), (10, mv), (11, .bool none), (12, intV (i : Int)), (13, ptrV bo 0)] ∧ Sat W0 [blkT bo (opV a), blkT c (cellV p C), dT p D, rowT stC mv may, F] ∧ (Ent F (RdI a.kv a.ks)) ∧ (a.n ≤ 9223372036854775807) ∧ (a.ks.length ≤ 100)) ?_ ?_
          · skip
            refine wc_seq ?_
            refine wc_region ?_
            refine wl_move rfl rfl ?_
            refine wl_move rfl rfl ?_
            first | refine wl_lenL Tryd.underlying38 rfl rfl ?_ | refine wl_lenO 3 hS12 Tryd.underlying38 rfl rfl rfl ?_
            refine wl_lss rfl rfl rfl ?_
            refine wl_nil ?_
            refine qs_seq ?_
            refine wc_sub (L' := [(54, _), (13, _), (0, _), (1, _), (5, _), (7, _), (8, _), (10, _), (11, _), (12, _)]) (.cons rfl (.cons rfl (.cons rfl (.cons rfl (.cons rfl (.cons rfl (.cons rfl (.cons rfl (.cons rfl (.cons rfl .nil)))))))))) ?_
            refine wc_condD rfl (fun h14 => ?_) (fun h14 => ?_)
            · skip
              obtain ⟨a, ha⟩ : ∃ a, l[i]? = some a := ⟨_, List.getElem?_eq_getElem (by omega)⟩
              obtain ⟨⟨bo, off, rfl, hc⟩, hopk⟩ := (hL.sat hS12 4 rfl).get ha
              have hone := op_one hopk
              clear hc
              refine wc_region ?_
              refine wl_move rfl rfl ?_
              refine wl_move rfl rfl ?_
              refine wl_indexAddr _ rfl rfl (by first | rfl | omega) (by omega) es_38 rfl ?_
              refine wl_loadAt rfl ag_42 sz_42 (vs := opV a) (RdX.cells (hL.sat hS12 4 rfl) ha) rfl ?_
              first | (refine wl_storeA hS12 rfl rfl sz_42 rfl (by first | rfl | (simp [allOne, Value.oneCell']; done) | assumption | exact hone) (i := 0) rfl (by first | decide | exact Nat.le_of_ble_eq_true rfl | (simp; done) | omega) ?_) | (refine wl_storeA hS12 rfl rfl sz_42 rfl (by first | rfl | (simp [allOne, Value.oneCell']; done) | assumption | exact hone) (i := 1) rfl (by first | decide | exact Nat.le_of_ble_eq_true rfl | (simp; done) | omega) ?_)
              intro w15 hS16; dsimp only [List.set] at hS16
              clear hS12
              refine wl_nil ?_
              exact qs_mid (.cons rfl (.cons rfl (.cons rfl (.cons rfl (.cons rfl (.cons rfl (.cons rfl (.cons rfl (.cons rfl .nil))))))))) ⟨_, a, rfl, hS16.pick [0, 1, 2, 3, 4] rfl, op_ent hL ha, hopk.2, (few_ok hfew ha).2⟩
            · skip
              refine wc_skip ?_
              exact qs_mid (.cons rfl (.cons rfl (.cons rfl (.cons rfl (.cons rfl (.cons rfl (.cons rfl (.cons rfl (.cons rfl .nil))))))))) ⟨_, ⟨3, [], 0, .slice aok ks.length capk, ks⟩, rfl, hS12.pick [0, 1, 2, 3, 4] rfl, hK, by simp, hkl⟩
          rintro _ w13 ⟨bo, a, rfl, hS13, hka, hna, hla⟩
          refine wc_seq ?_
          refine wc_region ?_
          refine wl_fieldAddr rfl fo_42_0 rfl ?_
          refine wl_load rfl ag_3 (by first | assumption | exact hS13.cell 0 rfl rfl | exact hS13.cell 1 rfl rfl) rfl ?_
          refine wl_nil ?_
          refine qs_seq ?_
          refine wc_block ?_
          refine wc_seq ?_
          refine wc_region ?_
          refine wl_eql rfl rfl rfl ?_
          refine wl_assign rfl rfl ?_
          refine wl_nil ?_
          refine qs_seq ?_
          refine wc_condD rfl (fun h17 => ?_) (fun h17 => ?_)
          · skip
            refine wc_seq ?_
            refine wc_region ?_
            refine wl_move rfl rfl ?_
            refine wl_fieldAddr rfl fo_42_1 rfl ?_
            refine wl_load rfl ag_9 (by first | assumption | exact hS13.cell 0 rfl rfl | exact hS13.cell 1 rfl rfl) rfl ?_
            have hC18 := hS13.split [1, 2] [false, true, true, false, false] rfl; dsimp only [selF, pickA, nthA, List.cons_append, List.nil_append] at hC18
            refine wl_call cal_18 rfl (set_sp hC18 (hG.starL 2 rfl) hsl a.s) rfl ?_
            rintro e w18 ⟨_, rfl, rfl, hS18⟩; refine ⟨_, rfl, ?_⟩
            replace hS18 := hS18.join rfl; dsimp only [List.dropLast, List.cons_append, List.nil_append] at hS18; clear hC18
            clear hS13
            refine wl_assign rfl rfl ?_
            refine wl_nil ?_
            have hset := lasts_set hok a.s
            refine qs_seq ?_
            refine wc_sub (L' := [(9, _), (0, _), (1, _), (5, _), (7, _), (8, _), (10, _), (11, _), (12, _), (13, _)]) (.cons rfl (.cons rfl (.cons rfl (.cons rfl (.cons rfl (.cons rfl (.cons rfl (.cons rfl (.cons rfl (.cons rfl .nil)))))))))) ?_
            refine wc_seq ?_
            refine wc_seq ?_
            refine wc_region ?_
            refine wl_move rfl rfl ?_
            refine wl_eql rfl rfl rfl ?_
            refine wl_nil ?_
            refine qs_seq ?_
            refine wc_condD rfl (fun h19 => ?_) (fun h19 => ?_)
            · skip
              have he5 : (setR D C a.s).e = 0 := h19
              refine wc_seq ?_
              refine wc_region ?_
              refine wl_assign rfl rfl ?_
              refine wl_nil ?_
              replace hS18 := hS18.row_nil stC
              refine qs_seq ?_
              refine wc_sub (L' := [(10, _), (0, _), (1, _), (5, _), (7, _), (8, _), (11, _), (12, _), (13, _)]) (.cons rfl (.cons rfl (.cons rfl (.cons rfl (.cons rfl (.cons rfl (.cons rfl (.cons rfl (.cons rfl .nil))))))))) ?_
              refine wc_region ?_
              refine wl_assign rfl rfl ?_
              refine wl_nil ?_
              refine qs_seq ?_
              refine wc_region ?_
              refine wl_move rfl rfl ?_
              refine wl_fieldAddr rfl fo_42_1 rfl ?_
              refine wl_load rfl ag_9 (by first | assumption | exact hS18.cell 1 rfl rfl | exact hS18.cell 3 rfl rfl) rfl ?_
              refine wl_rowBuild stC [a.s] hS18 rfl Tryd.underlying51 ifz_9 rfl rfl rfl rfl (by first | rfl | simp [RowC.cells, fillL, splice]) rfl ?_
              intro b20 w20 hS20
              clear hS18
              refine wl_rowApp stC 1 hS20 rfl rfl rfl (hS20.rd 0 rfl (by simp)) Tryd.underlying51 Tryd.underlying51 (by intro k hk; cases hk) ifo_9 rfl (by have hmx : ∀ x : Nat, x ≤ 31 → True := fun _ _ => trivial; have hfl := few_len hfew; simp only [List.length_cons, List.length_nil]; omega) rfl (by have hmx : ∀ x : Nat, x ≤ 31 → True := fun _ _ => trivial; have hfl := few_len hfew; simp only [List.length_cons, List.length_nil]; omega) ?_
              intro v21 w21 hS21; dsimp only [List.set] at hS21
              clear hS20
              have h1v21 : v21.oneCell' = true := hS21.own_one 1 rfl
              refine wl_assign rfl rfl ?_
              refine wl_nil ?_
              refine qs_block_normal ?_
              refine qs_block_normal ?_
              refine qs_seq ?_
              refine wc_sub (L' := [(10, _), (11, _), (0, _), (1, _), (5, _), (7, _), (8, _), (12, _)]) (.cons rfl (.cons rfl (.cons rfl (.cons rfl (.cons rfl (.cons rfl (.cons rfl (.cons rfl .nil)))))))) ?_
              refine wc_region ?_
              refine wl_move rfl rfl ?_
              refine wl_add rfl rfl (by omega) (by omega) rfl ?_
              refine wl_assign rfl rfl ?_
              refine wl_nil ?_
              exact qs_round (L1 := [(0, _), (1, _), (5, .bool true), (7, _), (8, _), (10, _), (11, _), (12, intV ((i + 1 : Nat) : Int))]) (.cons rfl (.cons rfl (.cons rfl (.cons rfl (.cons rfl (.cons rfl (.cons rfl (.cons rfl .nil)))))))) (k1 := l.length + 1 - (i + 1)) (by omega) ⟨i + 1, _, _, _, _, [] ++ [a.s], false, by omega, rfl, hS21.pick [2, 3, 1, 6] rfl, by omega, hset.2 he5, slot2_set hsl, by simp⟩
            · skip
              refine wc_skip ?_
              refine qs_seq ?_
              refine wc_sub (L' := [(0, _), (1, _), (5, _), (7, _), (8, _), (10, _), (11, _), (12, _), (13, _)]) (.cons rfl (.cons rfl (.cons rfl (.cons rfl (.cons rfl (.cons rfl (.cons rfl (.cons rfl (.cons rfl .nil))))))))) ?_
              refine wc_region ?_
              refine wl_move rfl rfl ?_
              refine wl_fieldAddr rfl fo_42_1 rfl ?_
              refine wl_load rfl ag_9 (by first | assumption | exact hS18.cell 0 rfl rfl | exact hS18.cell 2 rfl rfl) rfl ?_
              refine wl_rowBuild stC [a.s] hS18 rfl Tryd.underlying51 ifz_9 rfl rfl rfl rfl (by first | rfl | simp [RowC.cells, fillL, splice]) rfl ?_
              intro b22 w22 hS22
              clear hS18
              refine wl_rowApp stC 4 hS22 rfl rfl rfl (hS22.rd 0 rfl (by simp)) Tryd.underlying51 Tryd.underlying51 (by intro k hk; cases hk) ifo_9 rfl (by have hmx : ∀ x : Nat, x ≤ 31 → True := fun _ _ => trivial; have hfl := few_len hfew; simp only [List.length_cons, List.length_nil]; omega) rfl (by have hmx : ∀ x : Nat, x ≤ 31 → True := fun _ _ => trivial; have hfl := few_len hfew; simp only [List.length_cons, List.length_nil]; omega) ?_
              intro v23 w23 hS23; dsimp only [List.set] at hS23
              clear hS22
              have h1v23 : v23.oneCell' = true := hS23.own_one 4 rfl
              refine wl_assign rfl rfl ?_
              refine wl_nil ?_
              refine qs_block_normal ?_
              refine qs_block_normal ?_
              refine qs_seq ?_
              refine wc_sub (L' := [(10, _), (0, _), (1, _), (5, _), (7, _), (8, _), (11, _), (12, _)]) (.cons rfl (.cons rfl (.cons rfl (.cons rfl (.cons rfl (.cons rfl (.cons rfl (.cons rfl .nil)))))))) ?_
              refine wc_region ?_
              refine wl_move rfl rfl ?_
              refine wl_add rfl rfl (by omega) (by omega) rfl ?_
              refine wl_assign rfl rfl ?_
              refine wl_nil ?_
              exact qs_round (L1 := [(0, _), (1, _), (5, .bool true), (7, _), (8, _), (10, _), (11, _), (12, intV ((i + 1 : Nat) : Int))]) (.cons rfl (.cons rfl (.cons rfl (.cons rfl (.cons rfl (.cons rfl (.cons rfl (.cons rfl .nil)))))))) (k1 := l.length + 1 - (i + 1)) (by omega) ⟨i + 1, _, _, _, _, may ++ [a.s], none, by omega, rfl, hS23.pick [1, 2, 4, 5] rfl, by omega, hset.1, slot2_set hsl, by simp; omega⟩
          · skip
            refine wc_seq ?_
            refine wc_region ?_
            refine wl_eql rfl rfl rfl ?_
            refine wl_assign rfl rfl ?_
            refine wl_nil ?_
            refine qs_seq ?_
            refine wc_sub (L' := [(74, _), (60, _), (0, _), (1, _), (5, _), (7, _), (8, _), (10, _), (11, _), (12, _), (13, _)]) (.cons rfl (.cons rfl (.cons rfl (.cons rfl (.cons rfl (.cons rfl (.cons rfl (.cons rfl (.cons rfl (.cons rfl (.cons rfl .nil))))))))))) ?_
            refine wc_condD rfl (fun h24 => ?_) (fun h24 => ?_)
            · skip
              refine wc_region ?_
              refine wl_move rfl rfl ?_
              refine wl_fieldAddr rfl fo_42_2 rfl ?_
              refine wl_load rfl ag_3 (by first | assumption | exact hS13.cell 0 rfl rfl | exact hS13.cell 1 rfl rfl) rfl ?_
              have hC25 := hS13.split [2] [false, false, true, false, false] rfl; dsimp only [selF, pickA, nthA, List.cons_append, List.nil_append] at hC25
              refine wl_call cal_19 rfl (loseT hC25 a.n hna) rfl ?_
              rintro e w25 ⟨_, rfl, rfl, hS25⟩; refine ⟨_, rfl, ?_⟩
              replace hS25 := hS25.join rfl; dsimp only [List.dropLast, List.cons_append, List.nil_append] at hS25; clear hC25
              clear hS13
              refine wl_nil ?_
              refine qs_block_normal ?_
              refine qs_block_normal ?_
              refine qs_seq ?_
              refine wc_sub (L' := [(0, _), (1, _), (5, _), (7, _), (8, _), (10, _), (11, _), (12, _)]) (.cons rfl (.cons rfl (.cons rfl (.cons rfl (.cons rfl (.cons rfl (.cons rfl (.cons rfl .nil)))))))) ?_
              refine wc_region ?_
              refine wl_move rfl rfl ?_
              refine wl_add rfl rfl (by omega) (by omega) rfl ?_
              refine wl_assign rfl rfl ?_
              refine wl_nil ?_
              exact qs_round (L1 := [(0, _), (1, _), (5, .bool true), (7, _), (8, _), (10, _), (11, _), (12, intV ((i + 1 : Nat) : Int))]) (.cons rfl (.cons rfl (.cons rfl (.cons rfl (.cons rfl (.cons rfl (.cons rfl (.cons rfl .nil)))))))) (k1 := l.length + 1 - (i + 1)) (by omega) ⟨i + 1, _, _, _, _, may, none, by omega, rfl, hS25.pick [2, 0, 3, 4] rfl, by omega, hok.lose _, hsl, by omega⟩
            · skip
              refine wc_seq ?_
              refine wc_region ?_
              refine wl_eql rfl rfl rfl ?_
              refine wl_assign rfl rfl ?_
              refine wl_nil ?_
              refine qs_seq ?_
              refine wc_condD rfl (fun h26 => ?_) (fun h26 => ?_)
              · skip
                refine wc_region ?_
                refine wl_move rfl rfl ?_
                refine wl_fieldAddr rfl fo_42_2 rfl ?_
                refine wl_load rfl ag_3 (by first | assumption | exact hS13.cell 0 rfl rfl | exact hS13.cell 1 rfl rfl) rfl ?_
                refine wl_fieldAddr rfl fo_42_3 rfl ?_
                refine wl_load rfl ag_39 (by first | assumption | exact hS13.cell 0 rfl rfl | exact hS13.cell 1 rfl rfl) rfl ?_
                have hC27 := hS13.split [2] [false, false, true, false, false] rfl; dsimp only [selF, pickA, nthA, List.cons_append, List.nil_append] at hC27
                refine wl_call cal_21 rfl (armT hC27 a.n hna (hka.starL 3 rfl) (by omega)) rfl ?_
                rintro e w27 ⟨_, rfl, rfl, hS27⟩; refine ⟨_, rfl, ?_⟩
                replace hS27 := hS27.join rfl; dsimp only [List.dropLast, List.cons_append, List.nil_append] at hS27; clear hC27
                clear hS13
                refine wl_nil ?_
                refine qs_block_normal ?_
                refine qs_block_normal ?_
                refine qs_seq ?_
                refine wc_sub (L' := [(0, _), (1, _), (5, _), (7, _), (8, _), (10, _), (11, _), (12, _)]) (.cons rfl (.cons rfl (.cons rfl (.cons rfl (.cons rfl (.cons rfl (.cons rfl (.cons rfl .nil)))))))) ?_
                refine wc_region ?_
                refine wl_move rfl rfl ?_
                refine wl_add rfl rfl (by omega) (by omega) rfl ?_
                refine wl_assign rfl rfl ?_
                refine wl_nil ?_
                exact qs_round (L1 := [(0, _), (1, _), (5, .bool true), (7, _), (8, _), (10, _), (11, _), (12, intV ((i + 1 : Nat) : Int))]) (.cons rfl (.cons rfl (.cons rfl (.cons rfl (.cons rfl (.cons rfl (.cons rfl (.cons rfl .nil)))))))) (k1 := l.length + 1 - (i + 1)) (by omega) ⟨i + 1, _, _, _, _, may, none, by omega, rfl, hS27.pick [2, 0, 3, 4] rfl, by omega, hok.arm _ _, hsl, by omega⟩
              · skip
                refine wc_seq ?_
                refine wc_region ?_
                refine wl_eql rfl rfl rfl ?_
                refine wl_assign rfl rfl ?_
                refine wl_nil ?_
                refine qs_seq ?_
                refine wc_sub (L' := [(88, _), (0, _), (1, _), (5, _), (7, _), (8, _), (10, _), (11, _), (12, _), (13, _)]) (.cons rfl (.cons rfl (.cons rfl (.cons rfl (.cons rfl (.cons rfl (.cons rfl (.cons rfl (.cons rfl (.cons rfl .nil)))))))))) ?_
                refine wc_condD rfl (fun h28 => ?_) (fun h28 => ?_)
                · skip
                  obtain ⟨hE9, s9, v9, hC9, hs9, hp9, hg9, hf9⟩ := hok.again a.ks
                  refine wc_seq ?_
                  refine wc_region ?_
                  refine wl_move rfl rfl ?_
                  refine wl_fieldAddr rfl fo_42_3 rfl ?_
                  refine wl_load rfl ag_39 (by first | assumption | exact hS13.cell 0 rfl rfl | exact hS13.cell 1 rfl rfl) rfl ?_
                  have hC29 := hS13.split [2] [false, false, true, false, false] rfl; dsimp only [selF, pickA, nthA, List.cons_append, List.nil_append] at hC29
                  refine wl_call cal_20 rfl (again_sp hC29 (hG.starL 3 rfl) (hka.starL 3 rfl) hE9) rfl ?_
                  rintro e w29 ⟨_, rfl, c9, rfl, hS29⟩; refine ⟨_, rfl, ?_⟩
                  replace hS29 := hS29.join rfl; dsimp only [List.dropLast, List.cons_append, List.nil_append] at hS29; clear hC29
                  clear hS13
                  refine wl_move rfl rfl ?_
                  refine wl_extract rfl rfl rfl ?_
                  refine wl_extract rfl rfl rfl ?_
                  refine wl_assign rfl rfl ?_
                  refine wl_assign rfl rfl ?_
                  refine wl_nil ?_
                  rw [hC9] at hS29
                  refine qs_seq ?_
                  refine wc_sub (L' := [(9, _), (8, _), (0, _), (1, _), (5, _), (7, _), (10, _), (11, _), (12, _)]) (.cons rfl (.cons rfl (.cons rfl (.cons rfl (.cons rfl (.cons rfl (.cons rfl (.cons rfl (.cons rfl .nil))))))))) ?_
                  refine wc_seq ?_
                  refine wc_seq ?_
                  refine wc_region ?_
                  refine wl_move rfl rfl ?_
                  refine wl_eqlNil Tryd.underlying29 rfl rfl rfl ?_
                  refine wl_move rfl rfl ?_
                  refine wl_guard rfl rfl rfl ?_
                  refine wl_move rfl rfl ?_
                  refine wl_guard rfl rfl rfl ?_
                  refine wl_neq rfl rfl rfl ?_
                  refine wl_pickF rfl rfl rfl rfl ?_
                  refine wl_nil ?_
                  refine qs_seq ?_
                  refine wc_sub (L' := [(102, _), (8, _), (0, _), (1, _), (5, _), (7, _), (10, _), (11, _), (12, _)]) (.cons rfl (.cons rfl (.cons rfl (.cons rfl (.cons rfl (.cons rfl (.cons rfl (.cons rfl (.cons rfl .nil))))))))) ?_
                  refine wc_condD rfl (fun h30 => ?_) (fun h30 => ?_)
                  · skip
                    exact absurd rfl h30
                  · skip
                    refine wc_skip ?_
                    refine qs_seq ?_
                    refine wc_seq ?_
                    refine wc_region ?_
                    refine wl_move rfl rfl ?_
                    have hC31 := hS29.split [0] [true, false, false, false, false, false] rfl; dsimp only [selF, pickA, nthA, List.cons_append, List.nil_append] at hC31
                    refine wl_call cal_15 rfl (get_sp hC31) rfl ?_
                    rintro e w31 ⟨_, rfl, rfl, hS31⟩; refine ⟨_, rfl, ?_⟩
                    replace hS31 := hS31.join rfl; dsimp only [List.dropLast, List.cons_append, List.nil_append] at hS31; clear hC31
                    clear hS29
                    refine wl_move rfl rfl ?_
                    refine wl_extract rfl rfl rfl ?_
                    refine wl_extract rfl rfl rfl ?_
                    refine wl_assign rfl rfl ?_
                    refine wl_assign rfl rfl ?_
                    refine wl_nil ?_
                    refine qs_seq ?_
                    refine wc_sub (L' := [(15, _), (14, _), (8, _), (0, _), (1, _), (5, _), (7, _), (10, _), (11, _), (12, _)]) (.cons rfl (.cons rfl (.cons rfl (.cons rfl (.cons rfl (.cons rfl (.cons rfl (.cons rfl (.cons rfl (.cons rfl .nil)))))))))) ?_
                    refine wc_seq ?_
                    refine wc_seq ?_
                    refine wc_region ?_
                    refine wl_move rfl rfl ?_
                    refine wl_not rfl rfl ?_
                    refine wl_move rfl rfl ?_
                    refine wl_split 110 rfl (fun h32 => ?_) (fun h32 => ?_)
                    · skip
                      refine wl_guard rfl rfl h32 ?_
                      refine wl_move rfl rfl ?_
                      refine wl_guard rfl rfl h32 ?_
                      refine wl_not rfl rfl ?_
                      refine wl_pickT rfl h32 rfl rfl ?_
                      refine wl_move rfl rfl ?_
                      refine wl_split 114 rfl (fun h33 => ?_) (fun h33 => ?_)
                      · skip
                        exact absurd h33 (by rcases hp9 with ⟨q, q2⟩ | ⟨q, _⟩; (rw [q2]; decide); exact absurd (show (!decide (0 < s9)) = true by assumption) (by simp; omega))
                      · skip
                        refine wl_guard rfl rfl h33 ?_
                        refine wl_move rfl rfl ?_
                        refine wl_guard rfl rfl h33 ?_
                        refine wl_move rfl rfl ?_
                        refine wl_split 116 rfl (fun h34 => ?_) (fun h34 => ?_)
                        · skip
                          refine wl_guard rfl rfl h34 ?_
                          refine wl_move rfl rfl ?_
                          refine wl_guard rfl rfl h34 ?_
                          refine wl_move rfl rfl ?_
                          refine wl_guard rfl rfl h34 ?_
                          have hC35 := hS31.split [4] [false, false, false, false, true, false] rfl; dsimp only [selF, pickA, nthA, List.cons_append, List.nil_append] at hC35
                          refine wl_call cal_24 rfl (has_sp hC35 (by have := few_len hfew; omega) v9) rfl ?_
                          rintro e w35 ⟨_, rfl, rfl, hS35⟩; refine ⟨_, rfl, ?_⟩
                          replace hS35 := hS35.join rfl; dsimp only [List.dropLast, List.cons_append, List.nil_append] at hS35; clear hC35
                          clear hS31
                          refine wl_guard rfl rfl h34 ?_
                          refine wl_not rfl rfl ?_
                          refine wl_guard rfl rfl h33 ?_
                          refine wl_pickT rfl h34 rfl rfl ?_
                          refine wl_pickF rfl h33 rfl rfl ?_
                          refine wl_nil ?_
                          refine qs_seq ?_
                          refine wc_sub (L' := [(122, _), (15, _), (14, _), (8, _), (0, _), (1, _), (5, _), (7, _), (10, _), (11, _), (12, _)]) (.cons rfl (.cons rfl (.cons rfl (.cons rfl (.cons rfl (.cons rfl (.cons rfl (.cons rfl (.cons rfl (.cons rfl (.cons rfl .nil))))))))))) ?_
                          refine wc_cond rfl (fun h36 => ?_) (fun h36 => ?_)
                          · skip
                            first | (simp at h36; done) | (rcases hp9 with ⟨q, _⟩ | ⟨_, q⟩ <;> simp_all)
                          · skip
                            refine wc_skip ?_
                            refine qs_seq ?_
                            refine wc_seq ?_
                            refine wc_region ?_
                            refine wl_move rfl rfl ?_
                            refine wl_nil ?_
                            refine qs_seq ?_
                            refine wc_cond rfl (fun h37 => ?_) (fun h37 => ?_)
                            · skip
                              have h11 := h37
                              refine wc_seq ?_
                              refine wc_region ?_
                              refine wl_move rfl rfl ?_
                              refine wl_rowBuild stC [v9] hS35 rfl Tryd.underlying51 ifz_9 rfl rfl rfl rfl (by first | rfl | simp [RowC.cells, fillL, splice]) rfl ?_
                              intro b38 w38 hS38
                              clear hS35
                              refine wl_assign rfl rfl ?_
                              refine wl_nil ?_
                              refine qs_seq ?_
                              refine wc_sub (L' := [(10, _), (8, _), (0, _), (1, _), (5, _), (7, _), (11, _), (12, _)]) (.cons rfl (.cons rfl (.cons rfl (.cons rfl (.cons rfl (.cons rfl (.cons rfl (.cons rfl .nil)))))))) ?_
                              refine wc_region ?_
                              refine wl_assign rfl rfl ?_
                              refine wl_nil ?_
                              refine qs_block_normal ?_
                              refine qs_block_normal ?_
                              refine qs_seq ?_
                              refine wc_region ?_
                              refine wl_move rfl rfl ?_
                              refine wl_add rfl rfl (by omega) (by omega) rfl ?_
                              refine wl_assign rfl rfl ?_
                              refine wl_nil ?_
                              exact qs_round (L1 := [(0, _), (1, _), (5, .bool true), (7, _), (8, _), (10, _), (11, _), (12, intV ((i + 1 : Nat) : Int))]) (.cons rfl (.cons rfl (.cons rfl (.cons rfl (.cons rfl (.cons rfl (.cons rfl (.cons rfl .nil)))))))) (k1 := l.length + 1 - (i + 1)) (by omega) ⟨i + 1, _, _, _, _, [v9], false, by omega, rfl, hS38.pick [2, 3, 0, 6] rfl, by omega, .inl (hg9.narrow hf9 (.inr ⟨by show s9 ≠ 0; simp at h11; omega, by simp⟩)), hs9, by simp⟩
                            · skip
                              have h11 : ¬ (decide (0 < s9) = true) := by rw [h37]; decide
                              refine wc_region ?_
                              refine wl_assign rfl rfl ?_
                              refine wl_nil ?_
                              replace hS35 := hS35.row_nil stC
                              refine qs_block_normal ?_
                              refine qs_block_normal ?_
                              refine qs_seq ?_
                              refine wc_sub (L' := [(10, _), (8, _), (0, _), (1, _), (5, _), (7, _), (11, _), (12, _)]) (.cons rfl (.cons rfl (.cons rfl (.cons rfl (.cons rfl (.cons rfl (.cons rfl (.cons rfl .nil)))))))) ?_
                              refine wc_region ?_
                              refine wl_move rfl rfl ?_
                              refine wl_add rfl rfl (by omega) (by omega) rfl ?_
                              refine wl_assign rfl rfl ?_
                              refine wl_nil ?_
                              exact qs_round (L1 := [(0, _), (1, _), (5, .bool true), (7, _), (8, _), (10, _), (11, _), (12, intV ((i + 1 : Nat) : Int))]) (.cons rfl (.cons rfl (.cons rfl (.cons rfl (.cons rfl (.cons rfl (.cons rfl (.cons rfl .nil)))))))) (k1 := l.length + 1 - (i + 1)) (by omega) ⟨i + 1, _, _, _, _, [], none, by omega, rfl, hS35.pick [2, 3, 0, 6] rfl, by omega, .inl (hg9.narrow hf9 (by rcases hp9 with q | q; exact .inl q; exact absurd (by simp; omega) h11)), hs9, by simp⟩
                        · skip
                          refine wl_unwanted rfl rfl h34 rfl ?_
                          refine wl_unwanted rfl rfl h34 rfl ?_
                          refine wl_unwanted rfl rfl h34 rfl ?_
                          refine wl_unwanted rfl rfl h34 rfl ?_
                          refine wl_guard rfl rfl h33 ?_
                          refine wl_pickF rfl h34 rfl rfl ?_
                          refine wl_pickF rfl h33 rfl rfl ?_
                          refine wl_nil ?_
                          refine qs_seq ?_
                          refine wc_sub (L' := [(122, _), (15, _), (14, _), (8, _), (0, _), (1, _), (5, _), (7, _), (10, _), (11, _), (12, _)]) (.cons rfl (.cons rfl (.cons rfl (.cons rfl (.cons rfl (.cons rfl (.cons rfl (.cons rfl (.cons rfl (.cons rfl (.cons rfl .nil))))))))))) ?_
                          refine wc_condF rfl ?_
                          refine wc_skip ?_
                          refine qs_seq ?_
                          refine wc_seq ?_
                          refine wc_region ?_
                          refine wl_move rfl rfl ?_
                          refine wl_nil ?_
                          refine qs_seq ?_
                          refine wc_cond rfl (fun h39 => ?_) (fun h39 => ?_)
                          · skip
                            have h11 := h39
                            refine wc_seq ?_
                            refine wc_region ?_
                            refine wl_move rfl rfl ?_
                            refine wl_rowBuild stC [v9] hS31 rfl Tryd.underlying51 ifz_9 rfl rfl rfl rfl (by first | rfl | simp [RowC.cells, fillL, splice]) rfl ?_
                            intro b40 w40 hS40
                            clear hS31
                            refine wl_assign rfl rfl ?_
                            refine wl_nil ?_
                            refine qs_seq ?_
                            refine wc_sub (L' := [(10, _), (8, _), (0, _), (1, _), (5, _), (7, _), (11, _), (12, _)]) (.cons rfl (.cons rfl (.cons rfl (.cons rfl (.cons rfl (.cons rfl (.cons rfl (.cons rfl .nil)))))))) ?_
                            refine wc_region ?_
                            refine wl_assign rfl rfl ?_
                            refine wl_nil ?_
                            refine qs_block_normal ?_
                            refine qs_block_normal ?_
                            refine qs_seq ?_
                            refine wc_region ?_
                            refine wl_move rfl rfl ?_
                            refine wl_add rfl rfl (by omega) (by omega) rfl ?_
                            refine wl_assign rfl rfl ?_
                            refine wl_nil ?_
                            exact qs_round (L1 := [(0, _), (1, _), (5, .bool true), (7, _), (8, _), (10, _), (11, _), (12, intV ((i + 1 : Nat) : Int))]) (.cons rfl (.cons rfl (.cons rfl (.cons rfl (.cons rfl (.cons rfl (.cons rfl (.cons rfl .nil)))))))) (k1 := l.length + 1 - (i + 1)) (by omega) ⟨i + 1, _, _, _, _, [v9], false, by omega, rfl, hS40.pick [1, 2, 0, 6] rfl, by omega, .inl (hg9.narrow hf9 (.inr ⟨by show s9 ≠ 0; simp at h11; omega, by simp⟩)), hs9, by simp⟩
                          · skip
                            have h11 : ¬ (decide (0 < s9) = true) := by rw [h39]; decide
                            refine wc_region ?_
                            refine wl_assign rfl rfl ?_
                            refine wl_nil ?_
                            replace hS31 := hS31.row_nil stC
                            refine qs_block_normal ?_
                            refine qs_block_normal ?_
                            refine qs_seq ?_
                            refine wc_sub (L' := [(10, _), (8, _), (0, _), (1, _), (5, _), (7, _), (11, _), (12, _)]) (.cons rfl (.cons rfl (.cons rfl (.cons rfl (.cons rfl (.cons rfl (.cons rfl (.cons rfl .nil)))))))) ?_
                            refine wc_region ?_
                            refine wl_move rfl rfl ?_
                            refine wl_add rfl rfl (by omega) (by omega) rfl ?_
                            refine wl_assign rfl rfl ?_
                            refine wl_nil ?_
                            exact qs_round (L1 := [(0, _), (1, _), (5, .bool true), (7, _), (8, _), (10, _), (11, _), (12, intV ((i + 1 : Nat) : Int))]) (.cons rfl (.cons rfl (.cons rfl (.cons rfl (.cons rfl (.cons rfl (.cons rfl (.cons rfl .nil)))))))) (k1 := l.length + 1 - (i + 1)) (by omega) ⟨i + 1, _, _, _, _, [], none, by omega, rfl, hS31.pick [1, 2, 0, 6] rfl, by omega, .inl (hg9.narrow hf9 (by rcases hp9 with q | q; exact .inl q; exact absurd (by simp; omega) h11)), hs9, by simp⟩
                    · skip
                      refine wl_unwanted rfl rfl h32 rfl ?_
                      refine wl_unwanted rfl rfl h32 rfl ?_
                      refine wl_pickF rfl h32 rfl rfl ?_
                      refine wl_move rfl rfl ?_
                      refine wl_guard rfl rfl rfl ?_
                      refine wl_move rfl rfl ?_
                      refine wl_guard rfl rfl rfl ?_
                      refine wl_move rfl rfl ?_
                      refine wl_split 116 rfl (fun h41 => ?_) (fun h41 => ?_)
                      · skip
                        refine wl_guard rfl rfl h41 ?_
                        refine wl_move rfl rfl ?_
                        refine wl_guard rfl rfl h41 ?_
                        refine wl_move rfl rfl ?_
                        refine wl_guard rfl rfl h41 ?_
                        have hC42 := hS31.split [4] [false, false, false, false, true, false] rfl; dsimp only [selF, pickA, nthA, List.cons_append, List.nil_append] at hC42
                        refine wl_call cal_24 rfl (has_sp hC42 (by have := few_len hfew; omega) v9) rfl ?_
                        rintro e w42 ⟨_, rfl, rfl, hS42⟩; refine ⟨_, rfl, ?_⟩
                        replace hS42 := hS42.join rfl; dsimp only [List.dropLast, List.cons_append, List.nil_append] at hS42; clear hC42
                        clear hS31
                        refine wl_guard rfl rfl h41 ?_
                        refine wl_not rfl rfl ?_
                        refine wl_guard rfl rfl rfl ?_
                        refine wl_pickT rfl h41 rfl rfl ?_
                        refine wl_pickF rfl rfl rfl rfl ?_
                        refine wl_nil ?_
                        refine qs_seq ?_
                        refine wc_sub (L' := [(122, _), (15, _), (14, _), (8, _), (0, _), (1, _), (5, _), (7, _), (10, _), (11, _), (12, _)]) (.cons rfl (.cons rfl (.cons rfl (.cons rfl (.cons rfl (.cons rfl (.cons rfl (.cons rfl (.cons rfl (.cons rfl (.cons rfl .nil))))))))))) ?_
                        refine wc_cond rfl (fun h43 => ?_) (fun h43 => ?_)
                        · skip
                          first | (simp at h43; done) | (rcases hp9 with ⟨q, _⟩ | ⟨_, q⟩ <;> simp_all)
                        · skip
                          refine wc_skip ?_
                          refine qs_seq ?_
                          refine wc_seq ?_
                          refine wc_region ?_
                          refine wl_move rfl rfl ?_
                          refine wl_nil ?_
                          refine qs_seq ?_
                          refine wc_cond rfl (fun h44 => ?_) (fun h44 => ?_)
                          · skip
                            have h11 := h44
                            refine wc_seq ?_
                            refine wc_region ?_
                            refine wl_move rfl rfl ?_
                            refine wl_rowBuild stC [v9] hS42 rfl Tryd.underlying51 ifz_9 rfl rfl rfl rfl (by first | rfl | simp [RowC.cells, fillL, splice]) rfl ?_
                            intro b45 w45 hS45
                            clear hS42
                            refine wl_assign rfl rfl ?_
                            refine wl_nil ?_
                            refine qs_seq ?_
                            refine wc_sub (L' := [(10, _), (8, _), (0, _), (1, _), (5, _), (7, _), (11, _), (12, _)]) (.cons rfl (.cons rfl (.cons rfl (.cons rfl (.cons rfl (.cons rfl (.cons rfl (.cons rfl .nil)))))))) ?_
                            refine wc_region ?_
                            refine wl_assign rfl rfl ?_
                            refine wl_nil ?_
                            refine qs_block_normal ?_
                            refine qs_block_normal ?_
                            refine qs_seq ?_
                            refine wc_region ?_
                            refine wl_move rfl rfl ?_
                            refine wl_add rfl rfl (by omega) (by omega) rfl ?_
                            refine wl_assign rfl rfl ?_
                            refine wl_nil ?_
                            exact qs_round (L1 := [(0, _), (1, _), (5, .bool true), (7, _), (8, _), (10, _), (11, _), (12, intV ((i + 1 : Nat) : Int))]) (.cons rfl (.cons rfl (.cons rfl (.cons rfl (.cons rfl (.cons rfl (.cons rfl (.cons rfl .nil)))))))) (k1 := l.length + 1 - (i + 1)) (by omega) ⟨i + 1, _, _, _, _, [v9], false, by omega, rfl, hS45.pick [2, 3, 0, 6] rfl, by omega, .inl (hg9.narrow hf9 (.inr ⟨by show s9 ≠ 0; simp at h11; omega, by simp⟩)), hs9, by simp⟩
                          · skip
                            have h11 : ¬ (decide (0 < s9) = true) := by rw [h44]; decide
                            refine wc_region ?_
                            refine wl_assign rfl rfl ?_
                            refine wl_nil ?_
                            replace hS42 := hS42.row_nil stC
                            refine qs_block_normal ?_
                            refine qs_block_normal ?_
                            refine qs_seq ?_
                            refine wc_sub (L' := [(10, _), (8, _), (0, _), (1, _), (5, _), (7, _), (11, _), (12, _)]) (.cons rfl (.cons rfl (.cons rfl (.cons rfl (.cons rfl (.cons rfl (.cons rfl (.cons rfl .nil)))))))) ?_
                            refine wc_region ?_
                            refine wl_move rfl rfl ?_
                            refine wl_add rfl rfl (by omega) (by omega) rfl ?_
                            refine wl_assign rfl rfl ?_
                            refine wl_nil ?_
                            exact qs_round (L1 := [(0, _), (1, _), (5, .bool true), (7, _), (8, _), (10, _), (11, _), (12, intV ((i + 1 : Nat) : Int))]) (.cons rfl (.cons rfl (.cons rfl (.cons rfl (.cons rfl (.cons rfl (.cons rfl (.cons rfl .nil)))))))) (k1 := l.length + 1 - (i + 1)) (by omega) ⟨i + 1, _, _, _, _, [], none, by omega, rfl, hS42.pick [2, 3, 0, 6] rfl, by omega, .inl (hg9.narrow hf9 (by rcases hp9 with q | q; exact .inl q; exact absurd (by simp; omega) h11)), hs9, by simp⟩
                      · skip
                        refine wl_unwanted rfl rfl h41 rfl ?_
                        refine wl_unwanted rfl rfl h41 rfl ?_
                        refine wl_unwanted rfl rfl h41 rfl ?_
                        refine wl_unwanted rfl rfl h41 rfl ?_
                        refine wl_guard rfl rfl rfl ?_
                        refine wl_pickF rfl h41 rfl rfl ?_
                        refine wl_pickF rfl rfl rfl rfl ?_
                        refine wl_nil ?_
                        refine qs_seq ?_
                        refine wc_sub (L' := [(122, _), (15, _), (14, _), (8, _), (0, _), (1, _), (5, _), (7, _), (10, _), (11, _), (12, _)]) (.cons rfl (.cons rfl (.cons rfl (.cons rfl (.cons rfl (.cons rfl (.cons rfl (.cons rfl (.cons rfl (.cons rfl (.cons rfl .nil))))))))))) ?_
                        refine wc_condF rfl ?_
                        refine wc_skip ?_
                        refine qs_seq ?_
                        refine wc_seq ?_
                        refine wc_region ?_
                        refine wl_move rfl rfl ?_
                        refine wl_nil ?_
                        refine qs_seq ?_
                        refine wc_cond rfl (fun h46 => ?_) (fun h46 => ?_)
                        · skip
                          have h11 := h46
                          refine wc_seq ?_
                          refine wc_region ?_
                          refine wl_move rfl rfl ?_
                          refine wl_rowBuild stC [v9] hS31 rfl Tryd.underlying51 ifz_9 rfl rfl rfl rfl (by first | rfl | simp [RowC.cells, fillL, splice]) rfl ?_
                          intro b47 w47 hS47
                          clear hS31
                          refine wl_assign rfl rfl ?_
                          refine wl_nil ?_
                          refine qs_seq ?_
                          refine wc_sub (L' := [(10, _), (8, _), (0, _), (1, _), (5, _), (7, _), (11, _), (12, _)]) (.cons rfl (.cons rfl (.cons rfl (.cons rfl (.cons rfl (.cons rfl (.cons rfl (.cons rfl .nil)))))))) ?_
                          refine wc_region ?_
                          refine wl_assign rfl rfl ?_
                          refine wl_nil ?_
                          refine qs_block_normal ?_
                          refine qs_block_normal ?_
                          refine qs_seq ?_
                          refine wc_region ?_
                          refine wl_move rfl rfl ?_
                          refine wl_add rfl rfl (by omega) (by omega) rfl ?_
                          refine wl_assign rfl rfl ?_
                          refine wl_nil ?_
                          exact qs_round (L1 := [(0, _), (1, _), (5, .bool true), (7, _), (8, _), (10, _), (11, _), (12, intV ((i + 1 : Nat) : Int))]) (.cons rfl (.cons rfl (.cons rfl (.cons rfl (.cons rfl (.cons rfl (.cons rfl (.cons rfl .nil)))))))) (k1 := l.length + 1 - (i + 1)) (by omega) ⟨i + 1, _, _, _, _, [v9], false, by omega, rfl, hS47.pick [1, 2, 0, 6] rfl, by omega, .inl (hg9.narrow hf9 (.inr ⟨by show s9 ≠ 0; simp at h11; omega, by simp⟩)), hs9, by simp⟩
                        · skip
                          have h11 : ¬ (decide (0 < s9) = true) := by rw [h46]; decide
                          refine wc_region ?_
                          refine wl_assign rfl rfl ?_
                          refine wl_nil ?_
                          replace hS31 := hS31.row_nil stC
                          refine qs_block_normal ?_
                          refine qs_block_normal ?_
                          refine qs_seq ?_
                          refine wc_sub (L' := [(10, _), (8, _), (0, _), (1, _), (5, _), (7, _), (11, _), (12, _)]) (.cons rfl (.cons rfl (.cons rfl (.cons rfl (.cons rfl (.cons rfl (.cons rfl (.cons rfl .nil)))))))) ?_
                          refine wc_region ?_
                          refine wl_move rfl rfl ?_
                          refine wl_add rfl rfl (by omega) (by omega) rfl ?_
                          refine wl_assign rfl rfl ?_
                          refine wl_nil ?_
                          exact qs_round (L1 := [(0, _), (1, _), (5, .bool true), (7, _), (8, _), (10, _), (11, _), (12, intV ((i + 1 : Nat) : Int))]) (.cons rfl (.cons rfl (.cons rfl (.cons rfl (.cons rfl (.cons rfl (.cons rfl (.cons rfl .nil)))))))) (k1 := l.length + 1 - (i + 1)) (by omega) ⟨i + 1, _, _, _, _, [], none, by omega, rfl, hS31.pick [1, 2, 0, 6] rfl, by omega, .inl (hg9.narrow hf9 (by rcases hp9 with q | q; exact .inl q; exact absurd (by simp; omega) h11)), hs9, by simp⟩
                · skip
                  refine wc_skip ?_
                  refine qs_block_normal ?_
                  refine qs_block_normal ?_
                  refine qs_seq ?_
                  refine wc_region ?_
                  refine wl_move rfl rfl ?_
                  refine wl_add rfl rfl (by omega) (by omega) rfl ?_
                  refine wl_assign rfl rfl ?_
                  refine wl_nil ?_
                  exact qs_round (L1 := [(0, _), (1, _), (5, .bool true), (7, _), (8, _), (10, _), (11, _), (12, intV ((i + 1 : Nat) : Int))]) (.cons rfl (.cons rfl (.cons rfl (.cons rfl (.cons rfl (.cons rfl (.cons rfl (.cons rfl .nil)))))))) (k1 := l.length + 1 - (i + 1)) (by omega) ⟨i + 1, _, _, _, _, may, none, by omega, rfl, hS13.pick [1, 2, 3, 4] rfl, by omega, hok, hsl, by omega⟩
        · skip
          refine wc_exit ?_
          refine qs_then_exit ?_
          refine qs_then_exit ?_
          refine qs_block_exit ?_
          refine qs_seq ?_
          refine wc_seq ?_
          refine wc_region ?_
          refine wl_move rfl rfl ?_
          refine wl_assign rfl rfl ?_
          refine wl_nil ?_
          refine qs_seq ?_
          refine wc_sub (L' := [(4, _)]) (.cons rfl .nil) ?_
          refine wc_ret ?_
          refine fin1 (.inr rfl) rfl rfl ?_
          exact ⟨_, rfl, rfl, hS8.pick [3] rfl⟩

theorem lasts_row {W : World} (hG : Glob 0 W) {v0 v1 : Value} {l0 : List (Int × ByteArray × Int × List Int × Unit)} {l1 : List Int} (h0 : SliceRd opC.rd opC.size W v0 l0) (h1 : SliceRd intC.rd intC.size W v1 l1) :
    Calls Tryd.prog 6 #[v0, v1] W fun e W' => e = .returned (.bool true) ∧ Below W.heap.size W W' := by
  obtain ⟨a0, h0⟩ := ops_of h0
  exact (lasts_law (Sat.start W) hG.frame (Ent.frame h0) (Ent.frame (rdI_of h1))).mono fun e W' ⟨v, h4, h5, h6⟩ => ⟨by rw [h4, h5], below_of h6⟩
end Go.Proofs.YtleaahajkncnpaaDoor
