/- laws of journal: JournalLists -/
import Derived.Test.YtfmkodmmbgibgaaGreatDoorJl1
import Derived.Test.YtfmkodmmbgibgaaGreatDoorJw4
import Derived.ChangeKeysEq
import Derived.Laws.StructEq
namespace Go.Proofs.YtfmkodmmbgibgaaGreatDoor
open Go.RowKit M
set_option linter.unusedVariables false
def dataB (B : Int → Bytes) : List Bytes := (List.range 2048).map fun n : Nat => B n
theorem data_len (B : Int → Bytes) : (dataB B).length = 2048 := by simp [dataB]
theorem data_at (B : Int → Bytes) {n : Nat} (h : n < 2048) : (dataB B)[n]? = some (B n) := by simp [dataB, h]
theorem data_nil : dataB (fun _ => []) = List.replicate 2048 [] := by
  apply List.ext_getElem?
  intro j
  by_cases h : j < 2048
  · rw [data_at _ h, List.getElem?_replicate, if_pos h]
  · rw [List.getElem?_eq_none (by rw [data_len]; omega), List.getElem?_eq_none (by rw [List.length_replicate]; omega)]
theorem data_set {B : Int → Bytes} {n : Int} {d : Bytes} (h : 0 ≤ n ∧ n < 2048) : (dataB B).set n.toNat d = dataB (updB B n d) := by
  apply List.ext_getElem?
  intro j
  by_cases hj : j < 2048
  · rw [List.getElem?_set, data_at B hj, data_at (updB B n d) hj, data_len]
    unfold updB
    by_cases e : n.toNat = j
    · rw [if_pos e, if_pos (by omega), if_pos (by omega)]
    · rw [if_neg e, if_neg (by omega)]
  · rw [List.getElem?_eq_none (by rw [List.length_set, data_len]; omega), List.getElem?_eq_none (by rw [data_len]; omega)]
theorem srow (m : Nat) : (List.replicate m [strV []]).flatten = stC.cells (List.replicate m []) := by
  induction m with
  | zero => rfl
  | succ m ih => rw [List.replicate_succ, List.flatten_cons, ih, List.replicate_succ]; rfl
theorem all_snoc {cl : List Blk} {k : Nat} {y : Blk} (h : cl[k]? = some y) : (cl.take (k + 1)).all okB = ((cl.take k).all okB && okB y) := by
  rw [List.take_add_one, h, List.all_append]; simp
theorem right_all {l : List Blk} (h : l.length ≤ 8) : rightJ l = l.all okB := by
  unfold rightJ; rw [decide_eq_true (by omega), Bool.true_and]
theorem okB_dec {y : Blk} (h : 0 ≤ y.n ∧ y.n < 2048) : okB y = decide ((y.d.length : Int) ≤ 64) := by
  rw [Bool.eq_iff_iff, okB_iff, decide_eq_true_eq]; omega
set_option maxRecDepth 100000 in
set_option maxHeartbeats 2000000 in
theorem lists_law {w : World} {F : Th} (hS : Sat w [F]) (hG : Ent F WireG) (hO : Ent F (Glob 0)) (base : Int) {lv : Value} {ls : List ChD} (hL : Ent F (ChsRd lv ls)) :
    Calls Tryz.prog 3 #[intV base, lv] w (Ret fun v w' => v = .bool true ∧ Sat w' [F]) := by
  obtain ⟨ao, cap, rfl, hmax⟩ := (hL.sat hS 0 rfl).shape
  refine calls_enter Tryz.func3 rfl Tryz.ntmps3 rfl ?_
  refine wc_seq ?_
  refine wc_region ?_
  refine wl_assign rfl rfl ?_
  refine wl_nil ?_
  refine qs_seq ?_
  refine wc_seq ?_
  refine wc_region ?_
  have hC1 := hS.split [] [false] rfl; dsimp only [selF, pickA, nthA, List.cons_append, List.nil_append] at hC1
  refine wl_call cal_6 rfl (jsmall_sp hC1 (hG.starL 0 rfl) (hO.starL 0 rfl)) rfl ?_
  rintro e w1 ⟨_, rfl, rfl, hS1⟩; refine ⟨_, rfl, ?_⟩
  replace hS1 := hS1.join rfl; dsimp only [List.dropLast, List.cons_append, List.nil_append] at hS1; clear hC1
  refine wl_assign rfl rfl ?_
  refine wl_nil ?_
  refine qs_seq ?_
  refine wc_seq ?_
  refine wc_seq ?_
  refine wc_region ?_
  refine wl_move rfl rfl ?_
  have hC2 := hS1.split [] [false] rfl; dsimp only [selF, pickA, nthA, List.cons_append, List.nil_append] at hC2
  refine wl_call cal_7 rfl (jfew_sp hC2 (hL.starL 0 rfl) (ks := []) (fun _ => RdL.nil _ _)) rfl ?_
  rintro e w2 ⟨_, rfl, bf, rfl, hfw, hS2⟩; refine ⟨_, rfl, ?_⟩
  replace hS2 := hS2.join rfl; dsimp only [List.dropLast, List.cons_append, List.nil_append] at hS2; clear hC2
  clear hS1
  refine wl_not rfl rfl ?_
  refine wl_move rfl rfl ?_
  refine wl_split 22 rfl (fun h3 => ?_) (fun h3 => ?_)
  · skip
    refine wl_unwanted rfl rfl h3 rfl ?_
    refine wl_unwanted rfl rfl h3 rfl ?_
    refine wl_pickT rfl h3 rfl rfl ?_
    refine wl_move rfl rfl ?_
    refine wl_unwanted rfl rfl rfl rfl ?_
    refine wl_unwanted rfl rfl rfl rfl ?_
    refine wl_pickT rfl rfl rfl rfl ?_
    refine wl_nil ?_
    refine qs_seq ?_
    refine wc_sub (L' := [(29, _), (5, _), (4, _), (0, _), (1, _)]) (.cons rfl (.cons rfl (.cons rfl (.cons rfl (.cons rfl .nil))))) ?_
    refine wc_condT rfl ?_
    refine wc_seq ?_
    refine wc_region ?_
    refine wl_move rfl rfl ?_
    refine wl_assign rfl rfl ?_
    refine wl_nil ?_
    refine qs_seq ?_
    refine wc_ret ?_
    refine qs_then_ret ?_
    refine fin1 (.inr rfl) rfl rfl ?_
    exact ⟨_, rfl, rfl, hS2.pick [0] rfl⟩
  have hfw2 := hfw (by simpa using h3)
  refine wl_guard rfl rfl h3 ?_
  refine wl_move rfl rfl ?_
  refine wl_guard rfl rfl h3 ?_
  refine wl_lss rfl rfl rfl ?_
  refine wl_pickF rfl h3 rfl rfl ?_
  refine wl_move rfl rfl ?_
  refine wl_splitD 26 rfl (fun h4 => ?_) (fun h4 => ?_)
  · skip
    refine wl_unwanted rfl rfl (decide_eq_true h4) rfl ?_
    refine wl_unwanted rfl rfl (decide_eq_true h4) rfl ?_
    refine wl_pickT rfl (decide_eq_true h4) rfl rfl ?_
    refine wl_nil ?_
    refine qs_seq ?_
    refine wc_sub (L' := [(29, _), (5, _), (4, _), (0, _), (1, _)]) (.cons rfl (.cons rfl (.cons rfl (.cons rfl (.cons rfl .nil))))) ?_
    refine wc_condT rfl ?_
    refine wc_seq ?_
    refine wc_region ?_
    refine wl_move rfl rfl ?_
    refine wl_assign rfl rfl ?_
    refine wl_nil ?_
    refine qs_seq ?_
    refine wc_ret ?_
    refine qs_then_ret ?_
    refine fin1 (.inr rfl) rfl rfl ?_
    exact ⟨_, rfl, rfl, hS2.pick [0] rfl⟩
  refine wl_guard rfl rfl (decide_eq_false h4) ?_
  refine wl_move rfl rfl ?_
  refine wl_guard rfl rfl (decide_eq_false h4) ?_
  refine wl_gtr rfl rfl rfl ?_
  refine wl_pickF rfl (decide_eq_false h4) rfl rfl ?_
  refine wl_nil ?_
  refine qs_seq ?_
  refine wc_sub (L' := [(29, _), (5, _), (4, _), (0, _), (1, _)]) (.cons rfl (.cons rfl (.cons rfl (.cons rfl (.cons rfl .nil))))) ?_
  refine wc_condD rfl (fun h5 => ?_) (fun h5 => ?_)
  · skip
    refine wc_seq ?_
    refine wc_region ?_
    refine wl_move rfl rfl ?_
    refine wl_assign rfl rfl ?_
    refine wl_nil ?_
    refine qs_seq ?_
    refine wc_ret ?_
    refine qs_then_ret ?_
    refine fin1 (.inr rfl) rfl rfl ?_
    exact ⟨_, rfl, rfl, hS2.pick [0] rfl⟩
  have hb : 0 ≤ base ∧ base ≤ 13 := by omega
  refine wc_skip ?_
  refine qs_seq ?_
  refine wc_seq ?_
  refine wc_region ?_
  have hC6 := hS2.split [] [false] rfl; dsimp only [selF, pickA, nthA, List.cons_append, List.nil_append] at hC6
  refine wl_call cal_8 rfl (new_sp hC6) rfl ?_
  rintro e w6 ⟨_, rfl, dp, rfl, hS6⟩; refine ⟨_, rfl, ?_⟩
  replace hS6 := hS6.join rfl; dsimp only [List.dropLast, List.cons_append, List.nil_append] at hS6; clear hC6
  clear hS2
  replace hS6 := dT_new hS6
  refine wl_assign rfl rfl ?_
  refine wl_nil ?_
  refine qs_seq ?_
  refine wc_seq ?_
  refine wc_seq ?_
  refine wc_region ?_
  refine wl_move rfl rfl ?_
  refine wl_eqlNil Tryz.underlying25 rfl rfl rfl ?_
  refine wl_nil ?_
  refine qs_seq ?_
  refine wc_condF rfl ?_
  refine wc_skip ?_
  refine qs_seq ?_
  refine wc_seq ?_
  refine wc_region ?_
  refine wl_move rfl rfl ?_
  refine wl_move rfl rfl ?_
  have hC7 := hS6.split [0] [true, false] rfl; dsimp only [selF, pickA, nthA, List.cons_append, List.nil_append] at hC7
  refine wl_call cal_9 rfl (lopenS hC7 (hG.starL 0 rfl) (hO.starL 0 rfl) hb ran_nil (sta_new hb) rfl) rfl ?_
  rintro e w7 ⟨_, rfl, jp, D1, C1, rfl, hs1, ha1, hS7⟩; refine ⟨_, rfl, ?_⟩
  replace hS7 := hS7.join rfl; dsimp only [List.dropLast, List.cons_append, List.nil_append] at hS7; clear hC7
  clear hS6
  refine wl_move rfl rfl ?_
  refine wl_extract rfl rfl rfl ?_
  refine wl_extract rfl rfl rfl ?_
  refine wl_assign rfl rfl ?_
  refine wl_assign rfl rfl ?_
  refine wl_nil ?_
  refine qs_seq ?_
  refine wc_sub (L' := [(8, _), (7, _), (6, _), (5, _), (4, _), (0, _), (1, _)]) (.cons rfl (.cons rfl (.cons rfl (.cons rfl (.cons rfl (.cons rfl (.cons rfl .nil))))))) ?_
  refine wc_seq ?_
  refine wc_seq ?_
  refine wc_region ?_
  refine wl_move rfl rfl ?_
  refine wl_neq rfl rfl rfl ?_
  refine wl_move rfl rfl ?_
  refine wl_splitD 42 rfl (fun h8 => ?_) (fun h8 => ?_)
  · skip
    exact absurd rfl h8
  refine wl_guard rfl rfl (decide_eq_false h8) ?_
  refine wl_move rfl rfl ?_
  refine wl_guard rfl rfl (decide_eq_false h8) ?_
  refine wl_eqlNil Tryz.underlying27 rfl rfl rfl ?_
  refine wl_pickF rfl (decide_eq_false h8) rfl rfl ?_
  refine wl_nil ?_
  refine qs_seq ?_
  refine wc_sub (L' := [(45, _), (8, _), (7, _), (6, _), (5, _), (4, _), (0, _), (1, _)]) (.cons rfl (.cons rfl (.cons rfl (.cons rfl (.cons rfl (.cons rfl (.cons rfl (.cons rfl .nil)))))))) ?_
  refine wc_condF rfl ?_
  refine wc_skip ?_
  refine qs_seq ?_
  refine wc_seq ?_
  refine wc_region ?_
  refine wl_make hS7 2048 rfl rfl rfl Tryz.underlying31 ifo_9 rfl (by omega) (by omega) rfl ?_
  intro db w9 hS9a; have hS9 := hS9a.row_cast (l := List.replicate 2048 []) (C := stC) (by simp) rfl (srow _)
  rw [← data_nil] at hS9
  clear hS7
  refine wl_assign rfl rfl ?_
  refine wl_nil ?_
  refine qs_seq ?_
  refine wc_seq ?_
  refine wc_seq ?_
  refine wc_region ?_
  refine wl_assign rfl rfl ?_
  refine wl_nil ?_
  refine qs_seq ?_
  refine wc_block ?_
  refine wc_loop (fun K0 E0 W0 => ∃ (i : Nat) (D : DS) (C : CS) (B : Int → Bytes), K0 = ls.length - i ∧ E0 = [(0, intV base), (1, .slice ao ls.length cap), (5, .bool true), (6, ptrV dp 0), (7, ptrV jp 0), (9, .slice (some ⟨db, 0, none⟩) 2048 2048), (10, intV (i : Int))] ∧ Sat W0 [jT jp dp ⟨base, C, B, false⟩, dT dp D, rowT stC (.slice (some ⟨db, 0, none⟩) 2048 2048) (dataB B), F] ∧ (i ≤ ls.length) ∧ (Sta D base C B) ∧ (Ran B) ∧ (D.armed = 0)) (L0 := [(0, _), (1, _), (5, _), (6, _), (7, _), (9, _), (10, _)]) (ls.length - 0) (.cons rfl (.cons rfl (.cons rfl (.cons rfl (.cons rfl (.cons rfl (.cons rfl .nil))))))) ⟨0, D1, C1, _, rfl, rfl, hS9.pick [1, 2, 0, 3] rfl, by omega, hs1, ran_nil, ha1⟩ ?_
  rintro _ _ w10 ⟨i, D, C, B, rfl, rfl, hS10, hi, hSta, hran, ha⟩
  refine wc_seq ?_
  refine wc_seq ?_
  refine wc_region ?_
  refine wl_move rfl rfl ?_
  refine wl_move rfl rfl ?_
  first | refine wl_lenL Tryz.underlying22 rfl rfl ?_ | refine wl_lenO 2 hS10 Tryz.underlying22 rfl rfl rfl ?_
  refine wl_lss rfl rfl rfl ?_
  refine wl_nil ?_
  refine qs_seq ?_
  refine wc_sub (L' := [(50, _), (0, _), (1, _), (5, _), (6, _), (7, _), (9, _), (10, _)]) (.cons rfl (.cons rfl (.cons rfl (.cons rfl (.cons rfl (.cons rfl (.cons rfl (.cons rfl .nil)))))))) ?_
  refine wc_condD rfl (fun h11 => ?_) (fun h11 => ?_)
  · skip
    obtain ⟨⟨cv, cl⟩, hcx⟩ : ∃ c, ls[i]? = some c := ⟨_, List.getElem?_eq_getElem (by omega)⟩
    obtain ⟨⟨b, off, rfl, _⟩, hrd⟩ := (hL.sat hS10 3 rfl).get hcx
    have hE5 : Ent F (RdL jbC cv cl) := RdX.elem hL hcx
    dsimp only at hrd
    obtain ⟨ao2, cap2, rfl, hm2⟩ := hrd.shape
    clear hrd
    refine wc_skip ?_
    refine qs_seq ?_
    refine wc_seq ?_
    refine wc_block ?_
    refine wc_seq ?_
    refine wc_region ?_
    refine wl_assign rfl rfl ?_
    refine wl_nil ?_
    refine qs_seq ?_
    refine wc_seq ?_
    refine wc_seq ?_
    refine wc_region ?_
    refine wl_assign rfl rfl ?_
    refine wl_nil ?_
    refine qs_seq ?_
    refine wc_block ?_
    refine wc_loop (fun K0 E0 W0 => ∃ (k : Nat), K0 = cl.length - k ∧ E0 = [(0, intV base), (1, .slice (some ⟨b, off, none⟩) ls.length cap), (5, .bool true), (6, ptrV dp 0), (7, ptrV jp 0), (9, .slice (some ⟨db, 0, none⟩) 2048 2048), (10, intV (i : Int)), (11, .bool ((cl.take k).all okB)), (12, intV (k : Int))] ∧ Sat W0 [jT jp dp ⟨base, C, B, false⟩, dT dp D, rowT stC (.slice (some ⟨db, 0, none⟩) 2048 2048) (dataB B), F] ∧ (k ≤ cl.length)) (L0 := [(0, _), (1, _), (5, _), (6, _), (7, _), (9, _), (10, _), (11, _), (12, _)]) (cl.length - 0) (.cons rfl (.cons rfl (.cons rfl (.cons rfl (.cons rfl (.cons rfl (.cons rfl (.cons rfl (.cons rfl .nil))))))))) ⟨0, rfl, rfl, hS10.pick [0, 1, 2, 3] rfl, by omega⟩ ?_
    rintro _ _ w12 ⟨k, rfl, rfl, hS12, hk⟩
    refine wc_seq ?_
    refine wc_seq ?_
    refine wc_region ?_
    refine wl_move rfl rfl ?_
    refine wl_move rfl rfl ?_
    refine wl_move rfl rfl ?_
    refine wl_indexAddr i rfl rfl (by first | rfl | omega) (by omega) es_22 rfl ?_
    refine wl_load rfl ag_32 (RdX.cells (hL.sat hS12 3 rfl) hcx 0 _ rfl) rfl ?_
    first | refine wl_lenL Tryz.underlying32 rfl rfl ?_ | refine wl_lenO 2 hS12 Tryz.underlying32 rfl rfl rfl ?_
    refine wl_lss rfl rfl rfl ?_
    refine wl_nil ?_
    refine qs_seq ?_
    refine wc_sub (L' := [(59, _), (0, _), (1, _), (5, _), (6, _), (7, _), (9, _), (10, _), (11, _), (12, _)]) (.cons rfl (.cons rfl (.cons rfl (.cons rfl (.cons rfl (.cons rfl (.cons rfl (.cons rfl (.cons rfl (.cons rfl .nil)))))))))) ?_
    refine wc_condD rfl (fun h13 => ?_) (fun h13 => ?_)
    · skip
      obtain ⟨y, hy⟩ : ∃ y, cl[k]? = some y := ⟨_, List.getElem?_eq_getElem (by omega)⟩
      obtain ⟨b2, off2, rfl, _⟩ := (hE5.sat hS12 3 rfl).get hy
      refine wc_skip ?_
      refine qs_seq ?_
      refine wc_seq ?_
      refine wc_block ?_
      refine wc_region ?_
      refine wl_move rfl rfl ?_
      refine wl_move rfl rfl ?_
      refine wl_split 63 rfl (fun h14 => ?_) (fun h14 => ?_)
      · skip
        refine wl_guard rfl rfl h14 ?_
        refine wl_move rfl rfl ?_
        refine wl_guard rfl rfl h14 ?_
        refine wl_move rfl rfl ?_
        refine wl_guard rfl rfl h14 ?_
        refine wl_indexAddr i rfl rfl (by first | rfl | omega) (by omega) es_22 rfl ?_
        refine wl_guard rfl rfl h14 ?_
        refine wl_load rfl ag_32 (RdX.cells (hL.sat hS12 3 rfl) hcx 0 _ rfl) rfl ?_
        refine wl_guard rfl rfl h14 ?_
        refine wl_move rfl rfl ?_
        refine wl_guard rfl rfl h14 ?_
        refine wl_indexAddr k rfl rfl (by first | rfl | omega) (by omega) es_32 rfl ?_
        refine wl_guard rfl rfl h14 ?_
        refine wl_fieldAddr rfl fo_34_0 rfl ?_
        refine wl_guard rfl rfl h14 ?_
        refine wl_load rfl ag_3 (((hE5.sat hS12 3 rfl).at_ hy) 0 _ rfl) rfl ?_
        refine wl_guard rfl rfl h14 ?_
        refine wl_geq rfl rfl rfl ?_
        refine wl_pickT rfl h14 rfl rfl ?_
        refine wl_move rfl rfl ?_
        refine wl_splitD 74 rfl (fun h15 => ?_) (fun h15 => ?_)
        · skip
          refine wl_guard rfl rfl (decide_eq_true h15) ?_
          refine wl_move rfl rfl ?_
          refine wl_guard rfl rfl (decide_eq_true h15) ?_
          refine wl_move rfl rfl ?_
          refine wl_guard rfl rfl (decide_eq_true h15) ?_
          refine wl_indexAddr i rfl rfl (by first | rfl | omega) (by omega) es_22 rfl ?_
          refine wl_guard rfl rfl (decide_eq_true h15) ?_
          refine wl_load rfl ag_32 (RdX.cells (hL.sat hS12 3 rfl) hcx 0 _ rfl) rfl ?_
          refine wl_guard rfl rfl (decide_eq_true h15) ?_
          refine wl_move rfl rfl ?_
          refine wl_guard rfl rfl (decide_eq_true h15) ?_
          refine wl_indexAddr k rfl rfl (by first | rfl | omega) (by omega) es_32 rfl ?_
          refine wl_guard rfl rfl (decide_eq_true h15) ?_
          refine wl_fieldAddr rfl fo_34_0 rfl ?_
          refine wl_guard rfl rfl (decide_eq_true h15) ?_
          refine wl_load rfl ag_3 (((hE5.sat hS12 3 rfl).at_ hy) 0 _ rfl) rfl ?_
          refine wl_guard rfl rfl (decide_eq_true h15) ?_
          refine wl_lss rfl rfl rfl ?_
          refine wl_pickT rfl (decide_eq_true h15) rfl rfl ?_
          refine wl_move rfl rfl ?_
          refine wl_splitD 85 rfl (fun h16 => ?_) (fun h16 => ?_)
          · skip
            refine wl_guard rfl rfl (decide_eq_true h16) ?_
            refine wl_move rfl rfl ?_
            refine wl_guard rfl rfl (decide_eq_true h16) ?_
            refine wl_move rfl rfl ?_
            refine wl_guard rfl rfl (decide_eq_true h16) ?_
            refine wl_indexAddr i rfl rfl (by first | rfl | omega) (by omega) es_22 rfl ?_
            refine wl_guard rfl rfl (decide_eq_true h16) ?_
            refine wl_load rfl ag_32 (RdX.cells (hL.sat hS12 3 rfl) hcx 0 _ rfl) rfl ?_
            refine wl_guard rfl rfl (decide_eq_true h16) ?_
            refine wl_move rfl rfl ?_
            refine wl_guard rfl rfl (decide_eq_true h16) ?_
            refine wl_indexAddr k rfl rfl (by first | rfl | omega) (by omega) es_32 rfl ?_
            refine wl_guard rfl rfl (decide_eq_true h16) ?_
            refine wl_fieldAddr rfl fo_34_1 rfl ?_
            refine wl_guard rfl rfl (decide_eq_true h16) ?_
            refine wl_load rfl ag_9 (((hE5.sat hS12 3 rfl).at_ hy) 1 _ rfl) rfl ?_
            refine wl_guard rfl rfl (decide_eq_true h16) ?_
            refine wl_lenS Tryz.underlying9 rfl rfl ?_
            refine wl_guard rfl rfl (decide_eq_true h16) ?_
            refine wl_leq rfl rfl rfl ?_
            refine wl_pickT rfl (decide_eq_true h16) rfl rfl ?_
            refine wl_assign rfl rfl ?_
            refine wl_nil ?_
            refine qs_block_normal ?_
            refine qs_seq ?_
            refine wc_sub (L' := [(11, _), (0, _), (1, _), (5, _), (6, _), (7, _), (9, _), (10, _), (12, _)]) (.cons rfl (.cons rfl (.cons rfl (.cons rfl (.cons rfl (.cons rfl (.cons rfl (.cons rfl (.cons rfl .nil))))))))) ?_
            refine wc_region ?_
            refine wl_move rfl rfl ?_
            refine wl_add rfl rfl (by first | omega | (simp; omega)) (by first | omega | (simp; omega)) rfl ?_
            refine wl_assign rfl rfl ?_
            refine wl_nil ?_
            have hall : (cl.take (k + 1)).all okB = decide ((y.d.length : Int) ≤ 64) := by rw [all_snoc hy, (by assumption : (cl.take k).all okB = true), Bool.true_and, okB_dec (by omega)]
            exact qs_round (L1 := [(0, _), (1, _), (5, _), (6, _), (7, _), (9, _), (10, _), (11, .bool ((cl.take (k + 1)).all okB)), (12, intV ((k + 1 : Nat) : Int))]) (.cons rfl (.cons rfl (.cons rfl (.cons rfl (.cons rfl (.cons rfl (.cons rfl (.cons (by rw [hall]; rfl) (.cons rfl .nil))))))))) (k1 := cl.length - (k + 1)) (by omega) ⟨k + 1, rfl, rfl, hS12.pick [0, 1, 2, 3] rfl, by omega⟩
          refine wl_unwanted rfl rfl (decide_eq_false h16) rfl ?_
          refine wl_unwanted rfl rfl (decide_eq_false h16) rfl ?_
          refine wl_unwanted rfl rfl (decide_eq_false h16) rfl ?_
          refine wl_unwanted rfl rfl (decide_eq_false h16) rfl ?_
          refine wl_unwanted rfl rfl (decide_eq_false h16) rfl ?_
          refine wl_unwanted rfl rfl (decide_eq_false h16) rfl ?_
          refine wl_unwanted rfl rfl (decide_eq_false h16) rfl ?_
          refine wl_unwanted rfl rfl (decide_eq_false h16) rfl ?_
          refine wl_unwanted rfl rfl (decide_eq_false h16) rfl ?_
          refine wl_unwanted rfl rfl (decide_eq_false h16) rfl ?_
          refine wl_pickF rfl (decide_eq_false h16) rfl rfl ?_
          refine wl_assign rfl rfl ?_
          refine wl_nil ?_
          refine qs_block_normal ?_
          refine qs_seq ?_
          refine wc_sub (L' := [(11, _), (0, _), (1, _), (5, _), (6, _), (7, _), (9, _), (10, _), (12, _)]) (.cons rfl (.cons rfl (.cons rfl (.cons rfl (.cons rfl (.cons rfl (.cons rfl (.cons rfl (.cons rfl .nil))))))))) ?_
          refine wc_region ?_
          refine wl_move rfl rfl ?_
          refine wl_add rfl rfl (by first | omega | (simp; omega)) (by first | omega | (simp; omega)) rfl ?_
          refine wl_assign rfl rfl ?_
          refine wl_nil ?_
          have hall : (cl.take (k + 1)).all okB = false := by rw [all_snoc hy, okB_no.2 (by omega), Bool.and_false]
          exact qs_round (L1 := [(0, _), (1, _), (5, _), (6, _), (7, _), (9, _), (10, _), (11, .bool ((cl.take (k + 1)).all okB)), (12, intV ((k + 1 : Nat) : Int))]) (.cons rfl (.cons rfl (.cons rfl (.cons rfl (.cons rfl (.cons rfl (.cons rfl (.cons (by rw [hall]; rfl) (.cons rfl .nil))))))))) (k1 := cl.length - (k + 1)) (by omega) ⟨k + 1, rfl, rfl, hS12.pick [0, 1, 2, 3] rfl, by omega⟩
        refine wl_unwanted rfl rfl (decide_eq_false h15) rfl ?_
        refine wl_unwanted rfl rfl (decide_eq_false h15) rfl ?_
        refine wl_unwanted rfl rfl (decide_eq_false h15) rfl ?_
        refine wl_unwanted rfl rfl (decide_eq_false h15) rfl ?_
        refine wl_unwanted rfl rfl (decide_eq_false h15) rfl ?_
        refine wl_unwanted rfl rfl (decide_eq_false h15) rfl ?_
        refine wl_unwanted rfl rfl (decide_eq_false h15) rfl ?_
        refine wl_unwanted rfl rfl (decide_eq_false h15) rfl ?_
        refine wl_unwanted rfl rfl (decide_eq_false h15) rfl ?_
        refine wl_pickF rfl (decide_eq_false h15) rfl rfl ?_
        refine wl_move rfl rfl ?_
        refine wl_unwanted rfl rfl rfl rfl ?_
        refine wl_unwanted rfl rfl rfl rfl ?_
        refine wl_unwanted rfl rfl rfl rfl ?_
        refine wl_unwanted rfl rfl rfl rfl ?_
        refine wl_unwanted rfl rfl rfl rfl ?_
        refine wl_unwanted rfl rfl rfl rfl ?_
        refine wl_unwanted rfl rfl rfl rfl ?_
        refine wl_unwanted rfl rfl rfl rfl ?_
        refine wl_unwanted rfl rfl rfl rfl ?_
        refine wl_unwanted rfl rfl rfl rfl ?_
        refine wl_pickF rfl rfl rfl rfl ?_
        refine wl_assign rfl rfl ?_
        refine wl_nil ?_
        refine qs_block_normal ?_
        refine qs_seq ?_
        refine wc_sub (L' := [(11, _), (0, _), (1, _), (5, _), (6, _), (7, _), (9, _), (10, _), (12, _)]) (.cons rfl (.cons rfl (.cons rfl (.cons rfl (.cons rfl (.cons rfl (.cons rfl (.cons rfl (.cons rfl .nil))))))))) ?_
        refine wc_region ?_
        refine wl_move rfl rfl ?_
        refine wl_add rfl rfl (by first | omega | (simp; omega)) (by first | omega | (simp; omega)) rfl ?_
        refine wl_assign rfl rfl ?_
        refine wl_nil ?_
        have hall : (cl.take (k + 1)).all okB = false := by rw [all_snoc hy, okB_no.2 (by omega), Bool.and_false]
        exact qs_round (L1 := [(0, _), (1, _), (5, _), (6, _), (7, _), (9, _), (10, _), (11, .bool ((cl.take (k + 1)).all okB)), (12, intV ((k + 1 : Nat) : Int))]) (.cons rfl (.cons rfl (.cons rfl (.cons rfl (.cons rfl (.cons rfl (.cons rfl (.cons (by rw [hall]; rfl) (.cons rfl .nil))))))))) (k1 := cl.length - (k + 1)) (by omega) ⟨k + 1, rfl, rfl, hS12.pick [0, 1, 2, 3] rfl, by omega⟩
      refine wl_unwanted rfl rfl h14 rfl ?_
      refine wl_unwanted rfl rfl h14 rfl ?_
      refine wl_unwanted rfl rfl h14 rfl ?_
      refine wl_unwanted rfl rfl h14 rfl ?_
      refine wl_unwanted rfl rfl h14 rfl ?_
      refine wl_unwanted rfl rfl h14 rfl ?_
      refine wl_unwanted rfl rfl h14 rfl ?_
      refine wl_unwanted rfl rfl h14 rfl ?_
      refine wl_unwanted rfl rfl h14 rfl ?_
      refine wl_pickF rfl h14 rfl rfl ?_
      refine wl_move rfl rfl ?_
      refine wl_unwanted rfl rfl rfl rfl ?_
      refine wl_unwanted rfl rfl rfl rfl ?_
      refine wl_unwanted rfl rfl rfl rfl ?_
      refine wl_unwanted rfl rfl rfl rfl ?_
      refine wl_unwanted rfl rfl rfl rfl ?_
      refine wl_unwanted rfl rfl rfl rfl ?_
      refine wl_unwanted rfl rfl rfl rfl ?_
      refine wl_unwanted rfl rfl rfl rfl ?_
      refine wl_unwanted rfl rfl rfl rfl ?_
      refine wl_pickF rfl rfl rfl rfl ?_
      refine wl_move rfl rfl ?_
      refine wl_unwanted rfl rfl rfl rfl ?_
      refine wl_unwanted rfl rfl rfl rfl ?_
      refine wl_unwanted rfl rfl rfl rfl ?_
      refine wl_unwanted rfl rfl rfl rfl ?_
      refine wl_unwanted rfl rfl rfl rfl ?_
      refine wl_unwanted rfl rfl rfl rfl ?_
      refine wl_unwanted rfl rfl rfl rfl ?_
      refine wl_unwanted rfl rfl rfl rfl ?_
      refine wl_unwanted rfl rfl rfl rfl ?_
      refine wl_unwanted rfl rfl rfl rfl ?_
      refine wl_pickF rfl rfl rfl rfl ?_
      refine wl_assign rfl rfl ?_
      refine wl_nil ?_
      refine qs_block_normal ?_
      refine qs_seq ?_
      refine wc_sub (L' := [(11, _), (0, _), (1, _), (5, _), (6, _), (7, _), (9, _), (10, _), (12, _)]) (.cons rfl (.cons rfl (.cons rfl (.cons rfl (.cons rfl (.cons rfl (.cons rfl (.cons rfl (.cons rfl .nil))))))))) ?_
      refine wc_region ?_
      refine wl_move rfl rfl ?_
      refine wl_add rfl rfl (by first | omega | (simp; omega)) (by first | omega | (simp; omega)) rfl ?_
      refine wl_assign rfl rfl ?_
      refine wl_nil ?_
      have hall : (cl.take (k + 1)).all okB = false := by rw [all_snoc hy, (by assumption : (cl.take k).all okB = false), Bool.false_and]
      exact qs_round (L1 := [(0, _), (1, _), (5, _), (6, _), (7, _), (9, _), (10, _), (11, .bool ((cl.take (k + 1)).all okB)), (12, intV ((k + 1 : Nat) : Int))]) (.cons rfl (.cons rfl (.cons rfl (.cons rfl (.cons rfl (.cons rfl (.cons rfl (.cons (by rw [hall]; rfl) (.cons rfl .nil))))))))) (k1 := cl.length - (k + 1)) (by omega) ⟨k + 1, rfl, rfl, hS12.pick [0, 1, 2, 3] rfl, by omega⟩
    refine wc_exit ?_
    refine qs_then_exit ?_
    refine qs_then_exit ?_
    refine qs_block_exit ?_
    refine qs_seq ?_
    refine wc_seq ?_
    refine wc_region ?_
    refine wl_move rfl rfl ?_
    refine wl_move rfl rfl ?_
    refine wl_move rfl rfl ?_
    refine wl_indexAddr i rfl rfl (by first | rfl | omega) (by omega) es_22 rfl ?_
    refine wl_load rfl ag_32 (RdX.cells (hL.sat hS12 3 rfl) hcx 0 _ rfl) rfl ?_
    have htk : cl.take k = cl := List.take_of_length_le (by omega)
    rw [htk]
    have hcl8 : cl.length ≤ 8 := hfw2.1 _ (List.mem_of_getElem? hcx)
    have hC17 := hS12.split [0, 1] [true, true, false, false] rfl; dsimp only [selF, pickA, nthA, List.cons_append, List.nil_append] at hC17
    refine wl_call cal_10 rfl (lcommit hC17 (hG.starL 1 rfl) (hO.starL 1 rfl) hb hSta (hE5.starL 1 rfl) (by omega)) rfl ?_
    rintro e w17 ⟨_, rfl, (⟨hrt, rfl, hS17⟩ | ⟨hrt, D2, C2, rfl, hs2, ha2, hS17⟩ | ⟨_, hq, _⟩)⟩
    · skip
      refine ⟨_, rfl, ?_⟩
      replace hS17 := hS17.join rfl; dsimp only [List.dropLast, List.cons_append, List.nil_append] at hS17; clear hC17
      clear hS12
      have hal : cl.all okB = false := by rw [← right_all hcl8]; exact hrt
      rw [hal]
      refine wl_assign rfl rfl ?_
      refine wl_nil ?_
      refine qs_seq ?_
      refine wc_sub (L' := [(8, _), (0, _), (1, _), (5, _), (6, _), (7, _), (9, _), (10, _), (11, _)]) (.cons rfl (.cons rfl (.cons rfl (.cons rfl (.cons rfl (.cons rfl (.cons rfl (.cons rfl (.cons rfl .nil))))))))) ?_
      refine wc_seq ?_
      refine wc_seq ?_
      refine wc_region ?_
      refine wl_move rfl rfl ?_
      refine wl_move rfl rfl ?_
      refine wl_eql rfl rfl rfl ?_
      refine wl_neqB Tryz.underlying4 rfl rfl rfl ?_
      refine wl_move rfl rfl ?_
      refine wl_split 107 rfl (fun h18 => ?_) (fun h18 => ?_)
      · skip
        simp at h18
      refine wl_guard rfl rfl h18 ?_
      refine wl_move rfl rfl ?_
      refine wl_guard rfl rfl h18 ?_
      refine wl_not rfl rfl ?_
      refine wl_guard rfl rfl h18 ?_
      refine wl_move rfl rfl ?_
      refine wl_split 110 rfl (fun h19 => ?_) (fun h19 => ?_)
      · skip
        refine wl_guard rfl rfl h19 ?_
        refine wl_move rfl rfl ?_
        refine wl_guard rfl rfl h19 ?_
        refine wl_neq rfl rfl rfl ?_
        refine wl_guard rfl rfl h18 ?_
        refine wl_pickT rfl h19 rfl rfl ?_
        refine wl_pickF rfl h18 rfl rfl ?_
        refine wl_nil ?_
        refine qs_seq ?_
        refine wc_sub (L' := [(114, _), (0, _), (1, _), (5, _), (6, _), (7, _), (9, _), (10, _), (11, _)]) (.cons rfl (.cons rfl (.cons rfl (.cons rfl (.cons rfl (.cons rfl (.cons rfl (.cons rfl (.cons rfl .nil))))))))) ?_
        refine wc_condD rfl (fun h20 => ?_) (fun h20 => ?_)
        · skip
          simp at h20
        refine wc_skip ?_
        refine qs_seq ?_
        refine wc_seq ?_
        refine wc_region ?_
        refine wl_assign rfl rfl ?_
        refine wl_nil ?_
        refine qs_seq ?_
        refine wc_block ?_
        refine wc_loop (fun K0 E0 W0 => ∃ (k : Nat), K0 = cl.length - k ∧ E0 = [(0, intV base), (1, .slice (some ⟨b, off, none⟩) ls.length cap), (5, .bool true), (6, ptrV dp 0), (7, ptrV jp 0), (9, .slice (some ⟨db, 0, none⟩) 2048 2048), (10, intV (i : Int)), (11, .bool false), (13, intV (k : Int))] ∧ Sat W0 [jT jp dp ⟨base, C, B, false⟩, dT dp D, rowT stC (.slice (some ⟨db, 0, none⟩) 2048 2048) (dataB B), F] ∧ (k ≤ cl.length)) (L0 := [(0, _), (1, _), (5, _), (6, _), (7, _), (9, _), (10, _), (11, _), (13, _)]) (cl.length - 0) (.cons rfl (.cons rfl (.cons rfl (.cons rfl (.cons rfl (.cons rfl (.cons rfl (.cons rfl (.cons rfl .nil))))))))) ⟨0, rfl, rfl, hS17.pick [0, 1, 2, 3] rfl, by omega⟩ ?_
        rintro _ _ w21 ⟨k, rfl, rfl, hS21, hk⟩
        refine wc_seq ?_
        refine wc_seq ?_
        refine wc_region ?_
        refine wl_move rfl rfl ?_
        refine wl_move rfl rfl ?_
        refine wl_move rfl rfl ?_
        refine wl_indexAddr i rfl rfl (by first | rfl | omega) (by omega) es_22 rfl ?_
        refine wl_load rfl ag_32 (RdX.cells (hL.sat hS21 3 rfl) hcx 0 _ rfl) rfl ?_
        first | refine wl_lenL Tryz.underlying32 rfl rfl ?_ | refine wl_lenO 2 hS21 Tryz.underlying32 rfl rfl rfl ?_
        refine wl_lss rfl rfl rfl ?_
        refine wl_move rfl rfl ?_
        refine wl_splitD 122 rfl (fun h22 => ?_) (fun h22 => ?_)
        · skip
          refine wl_guard rfl rfl (decide_eq_true h22) ?_
          refine wl_move rfl rfl ?_
          refine wl_pickT rfl (decide_eq_true h22) rfl rfl ?_
          refine wl_nil ?_
          refine qs_seq ?_
          refine wc_sub (L' := [(124, _), (0, _), (1, _), (5, _), (6, _), (7, _), (9, _), (10, _), (11, _), (13, _)]) (.cons rfl (.cons rfl (.cons rfl (.cons rfl (.cons rfl (.cons rfl (.cons rfl (.cons rfl (.cons rfl (.cons rfl .nil)))))))))) ?_
          refine wc_condF rfl ?_
          refine wc_exit ?_
          refine qs_then_exit ?_
          refine qs_then_exit ?_
          refine qs_block_exit ?_
          refine qs_block_normal ?_
          refine qs_seq ?_
          refine wc_region ?_
          refine wl_move rfl rfl ?_
          refine wl_add rfl rfl (by first | omega | (simp; omega)) (by first | omega | (simp; omega)) rfl ?_
          refine wl_assign rfl rfl ?_
          refine wl_nil ?_
          exact qs_round (L1 := [(0, _), (1, _), (5, _), (6, _), (7, _), (9, _), (10, intV ((i + 1 : Nat) : Int))]) (.cons rfl (.cons rfl (.cons rfl (.cons rfl (.cons rfl (.cons rfl (.cons rfl .nil))))))) (k1 := ls.length - (i + 1)) (by omega) ⟨i + 1, D, C, B, rfl, rfl, hS21.pick [0, 1, 2, 3] rfl, by omega, hSta, hran, ha⟩
        refine wl_unwanted rfl rfl (decide_eq_false h22) rfl ?_
        refine wl_pickF rfl (decide_eq_false h22) rfl rfl ?_
        refine wl_nil ?_
        refine qs_seq ?_
        refine wc_sub (L' := [(124, _), (0, _), (1, _), (5, _), (6, _), (7, _), (9, _), (10, _), (11, _), (13, _)]) (.cons rfl (.cons rfl (.cons rfl (.cons rfl (.cons rfl (.cons rfl (.cons rfl (.cons rfl (.cons rfl (.cons rfl .nil)))))))))) ?_
        refine wc_condF rfl ?_
        refine wc_exit ?_
        refine qs_then_exit ?_
        refine qs_then_exit ?_
        refine qs_block_exit ?_
        refine qs_block_normal ?_
        refine qs_seq ?_
        refine wc_region ?_
        refine wl_move rfl rfl ?_
        refine wl_add rfl rfl (by first | omega | (simp; omega)) (by first | omega | (simp; omega)) rfl ?_
        refine wl_assign rfl rfl ?_
        refine wl_nil ?_
        exact qs_round (L1 := [(0, _), (1, _), (5, _), (6, _), (7, _), (9, _), (10, intV ((i + 1 : Nat) : Int))]) (.cons rfl (.cons rfl (.cons rfl (.cons rfl (.cons rfl (.cons rfl (.cons rfl .nil))))))) (k1 := ls.length - (i + 1)) (by omega) ⟨i + 1, D, C, B, rfl, rfl, hS21.pick [0, 1, 2, 3] rfl, by omega, hSta, hran, ha⟩
      simp at h19
    · skip
      refine ⟨_, rfl, ?_⟩
      replace hS17 := hS17.join rfl; dsimp only [List.dropLast, List.cons_append, List.nil_append] at hS17; clear hC17
      clear hS12
      have hal : cl.all okB = true := by rw [← right_all hcl8]; exact hrt
      rw [hal]
      refine wl_assign rfl rfl ?_
      refine wl_nil ?_
      refine qs_seq ?_
      refine wc_sub (L' := [(8, _), (0, _), (1, _), (5, _), (6, _), (7, _), (9, _), (10, _), (11, _)]) (.cons rfl (.cons rfl (.cons rfl (.cons rfl (.cons rfl (.cons rfl (.cons rfl (.cons rfl (.cons rfl .nil))))))))) ?_
      refine wc_seq ?_
      refine wc_seq ?_
      refine wc_region ?_
      refine wl_move rfl rfl ?_
      refine wl_move rfl rfl ?_
      refine wl_eql rfl rfl rfl ?_
      refine wl_neqB Tryz.underlying4 rfl rfl rfl ?_
      refine wl_move rfl rfl ?_
      refine wl_split 107 rfl (fun h23 => ?_) (fun h23 => ?_)
      · skip
        simp at h23
      refine wl_guard rfl rfl h23 ?_
      refine wl_move rfl rfl ?_
      refine wl_guard rfl rfl h23 ?_
      refine wl_not rfl rfl ?_
      refine wl_guard rfl rfl h23 ?_
      refine wl_move rfl rfl ?_
      refine wl_split 110 rfl (fun h24 => ?_) (fun h24 => ?_)
      · skip
        simp at h24
      refine wl_unwanted rfl rfl h24 rfl ?_
      refine wl_unwanted rfl rfl h24 rfl ?_
      refine wl_guard rfl rfl h23 ?_
      refine wl_pickF rfl h24 rfl rfl ?_
      refine wl_pickF rfl h23 rfl rfl ?_
      refine wl_nil ?_
      refine qs_seq ?_
      refine wc_sub (L' := [(114, _), (0, _), (1, _), (5, _), (6, _), (7, _), (9, _), (10, _), (11, _)]) (.cons rfl (.cons rfl (.cons rfl (.cons rfl (.cons rfl (.cons rfl (.cons rfl (.cons rfl (.cons rfl .nil))))))))) ?_
      refine wc_condF rfl ?_
      refine wc_skip ?_
      refine qs_seq ?_
      refine wc_seq ?_
      refine wc_region ?_
      refine wl_assign rfl rfl ?_
      refine wl_nil ?_
      refine qs_seq ?_
      refine wc_block ?_
      refine wc_loop (fun K0 E0 W0 => ∃ (k : Nat), K0 = cl.length - k ∧ E0 = [(0, intV base), (1, .slice (some ⟨b, off, none⟩) ls.length cap), (5, .bool true), (6, ptrV dp 0), (7, ptrV jp 0), (9, .slice (some ⟨db, 0, none⟩) 2048 2048), (10, intV (i : Int)), (11, .bool true), (13, intV (k : Int))] ∧ Sat W0 [jT jp dp ⟨base, C2, (withB B cl), false⟩, dT dp D2, rowT stC (.slice (some ⟨db, 0, none⟩) 2048 2048) (dataB (withB B (cl.take k))), F] ∧ (k ≤ cl.length)) (L0 := [(0, _), (1, _), (5, _), (6, _), (7, _), (9, _), (10, _), (11, _), (13, _)]) (cl.length - 0) (.cons rfl (.cons rfl (.cons rfl (.cons rfl (.cons rfl (.cons rfl (.cons rfl (.cons rfl (.cons rfl .nil))))))))) ⟨0, rfl, rfl, by rw [List.take_zero, withB_nil]; exact hS17.pick [0, 1, 2, 3] rfl, by omega⟩ ?_
      rintro _ _ w25 ⟨k, rfl, rfl, hS25, hk⟩
      refine wc_seq ?_
      refine wc_seq ?_
      refine wc_region ?_
      refine wl_move rfl rfl ?_
      refine wl_move rfl rfl ?_
      refine wl_move rfl rfl ?_
      refine wl_indexAddr i rfl rfl (by first | rfl | omega) (by omega) es_22 rfl ?_
      refine wl_load rfl ag_32 (RdX.cells (hL.sat hS25 3 rfl) hcx 0 _ rfl) rfl ?_
      first | refine wl_lenL Tryz.underlying32 rfl rfl ?_ | refine wl_lenO 2 hS25 Tryz.underlying32 rfl rfl rfl ?_
      refine wl_lss rfl rfl rfl ?_
      refine wl_move rfl rfl ?_
      refine wl_splitD 122 rfl (fun h26 => ?_) (fun h26 => ?_)
      · skip
        refine wl_guard rfl rfl (decide_eq_true h26) ?_
        refine wl_move rfl rfl ?_
        refine wl_pickT rfl (decide_eq_true h26) rfl rfl ?_
        refine wl_nil ?_
        refine qs_seq ?_
        refine wc_sub (L' := [(124, _), (0, _), (1, _), (5, _), (6, _), (7, _), (9, _), (10, _), (11, _), (13, _)]) (.cons rfl (.cons rfl (.cons rfl (.cons rfl (.cons rfl (.cons rfl (.cons rfl (.cons rfl (.cons rfl (.cons rfl .nil)))))))))) ?_
        refine wc_condT rfl ?_
        refine wc_skip ?_
        refine qs_seq ?_
        refine wc_seq ?_
        refine wc_block ?_
        obtain ⟨y, hy⟩ : ∃ y, cl[k]? = some y := ⟨_, List.getElem?_eq_getElem (by omega)⟩
        obtain ⟨b2, off2, rfl, _⟩ := (hE5.sat hS25 3 rfl).get hy
        have hyr : 0 ≤ y.n ∧ y.n < 2048 := by have := (right_mem hrt).2 y (List.mem_of_getElem? hy); omega
        have hS27 := hS25.drew
        refine wc_draw [0, 1, 2, 3, 4, 5, 6, 7, 8, 9, 10, 11, 12, 13, 14, 15, 16, 17, 18] [18] mix (by kernel_rfl) ?_
        refine vc_p rfl rfl rfl (fun _ => (ev_move rfl)) ?_
        refine vc_p rfl rfl rfl (fun _ => (ev_move rfl)) ?_
        refine vc_p rfl rfl rfl (fun _ => (ev_move rfl)) ?_
        refine vc_p rfl rfl rfl (fun _ => (ev_indexAddr i rfl rfl (by first | rfl | omega) (by omega) es_22)) ?_
        refine vc_q rfl rfl rfl (ev_load rfl ag_32 (RdX.cells (hL.sat hS27 3 rfl) hcx 0 _ rfl)) ?_
        refine vc_p rfl rfl rfl (fun _ => (ev_move rfl)) ?_
        refine vc_p rfl rfl rfl (fun _ => (ev_indexAddr k rfl rfl (by first | rfl | omega) (by exact (List.getElem?_eq_some_iff.1 hy).1) es_32)) ?_
        refine vc_p rfl rfl rfl (fun _ => (ev_fieldAddr rfl fo_34_0)) ?_
        refine vc_q rfl rfl rfl (ev_load rfl ag_3 (((hE5.sat hS27 3 rfl).at_ hy) 0 _ rfl)) ?_
        refine vc_p rfl rfl rfl (fun _ => (ev_move rfl)) ?_
        refine vc_p rfl rfl rfl (fun _ => (ev_move rfl)) ?_
        refine vc_p rfl rfl rfl (fun _ => (ev_indexAddr i rfl rfl (by first | rfl | omega) (by omega) es_22)) ?_
        refine vc_q rfl rfl rfl (ev_load rfl ag_32 (RdX.cells (hL.sat hS27 3 rfl) hcx 0 _ rfl)) ?_
        refine vc_p rfl rfl rfl (fun _ => (ev_move rfl)) ?_
        refine vc_p rfl rfl rfl (fun _ => (ev_indexAddr k rfl rfl (by first | rfl | omega) (by exact (List.getElem?_eq_some_iff.1 hy).1) es_32)) ?_
        refine vc_p rfl rfl rfl (fun _ => (ev_fieldAddr rfl fo_34_1)) ?_
        refine vc_q rfl rfl rfl (ev_load rfl ag_9 (((hE5.sat hS27 3 rfl).at_ hy) 1 _ rfl)) ?_
        refine vc_p rfl rfl rfl (fun _ => (ev_indexAddr y.n.toNat rfl rfl (by first | rfl | omega) (by omega) es_31)) ?_
        refine vc_s rfl rfl rfl rfl rfl rfl ?_
        refine wl_rowStore 2 y.n.toNat y.d hS27 rfl rfl (by rw [Nat.zero_add]; rfl) rfl sz_9 (by first | rfl | (simp; done)) (by rw [data_len]; omega) ?_
        intro w28 hS28; dsimp only [List.set] at hS28
        clear hS27
        refine vc_e0 (.skip (by kernel_rfl) (.skip (by kernel_rfl) (.skip (by kernel_rfl) (.skip (by kernel_rfl) .nil)))) ?_
        refine VC.nil ?_
        refine qs_block_normal ?_
        refine qs_seq ?_
        refine wc_sub (L' := [(0, _), (1, _), (5, _), (6, _), (7, _), (9, _), (10, _), (11, _), (13, _)]) (.cons rfl (.cons rfl (.cons rfl (.cons rfl (.cons rfl (.cons rfl (.cons rfl (.cons rfl (.cons rfl .nil))))))))) ?_
        refine wc_region ?_
        refine wl_move rfl rfl ?_
        refine wl_add rfl rfl (by first | omega | (simp; omega)) (by first | omega | (simp; omega)) rfl ?_
        refine wl_assign rfl rfl ?_
        refine wl_nil ?_
        exact qs_round (L1 := [(0, _), (1, _), (5, _), (6, _), (7, _), (9, _), (10, _), (11, _), (13, intV ((k + 1 : Nat) : Int))]) (.cons rfl (.cons rfl (.cons rfl (.cons rfl (.cons rfl (.cons rfl (.cons rfl (.cons rfl (.cons rfl .nil))))))))) (k1 := cl.length - (k + 1)) (by omega) ⟨k + 1, rfl, rfl, by rw [withB_snoc hy, ← data_set hyr]; exact hS28.pick [0, 1, 2, 3] rfl, by omega⟩
      refine wl_unwanted rfl rfl (decide_eq_false h26) rfl ?_
      refine wl_pickF rfl (decide_eq_false h26) rfl rfl ?_
      refine wl_nil ?_
      refine qs_seq ?_
      refine wc_sub (L' := [(124, _), (0, _), (1, _), (5, _), (6, _), (7, _), (9, _), (10, _), (11, _), (13, _)]) (.cons rfl (.cons rfl (.cons rfl (.cons rfl (.cons rfl (.cons rfl (.cons rfl (.cons rfl (.cons rfl (.cons rfl .nil)))))))))) ?_
      refine wc_condF rfl ?_
      refine wc_exit ?_
      refine qs_then_exit ?_
      refine qs_then_exit ?_
      refine qs_block_exit ?_
      refine qs_block_normal ?_
      refine qs_seq ?_
      refine wc_region ?_
      refine wl_move rfl rfl ?_
      refine wl_add rfl rfl (by first | omega | (simp; omega)) (by first | omega | (simp; omega)) rfl ?_
      refine wl_assign rfl rfl ?_
      refine wl_nil ?_
      exact qs_round (L1 := [(0, _), (1, _), (5, _), (6, _), (7, _), (9, _), (10, intV ((i + 1 : Nat) : Int))]) (.cons rfl (.cons rfl (.cons rfl (.cons rfl (.cons rfl (.cons rfl (.cons rfl .nil))))))) (k1 := ls.length - (i + 1)) (by omega) ⟨i + 1, D2, C2, withB B cl, rfl, rfl, by have q9 := List.take_of_length_le (show cl.length ≤ k by omega); rw [q9] at hS25; exact hS25.pick [0, 1, 2, 3] rfl, by omega, hs2, withB_ran hran hrt, ha2 ha⟩
    exact absurd ha hq
  refine wc_exit ?_
  refine qs_then_exit ?_
  refine qs_then_exit ?_
  refine qs_block_exit ?_
  refine qs_seq ?_
  refine wc_seq ?_
  refine wc_region ?_
  refine wl_move rfl rfl ?_
  refine wl_move rfl rfl ?_
  have hC29 := hS10.split [1] [false, true, false, false] rfl; dsimp only [selF, pickA, nthA, List.cons_append, List.nil_append] at hC29
  refine wl_call cal_9 rfl (lopenS hC29 (hG.starL 2 rfl) (hO.starL 2 rfl) hb hran hSta ha) rfl ?_
  rintro e w29 ⟨_, rfl, jp2, D4, C4, rfl, hs4, ha4, hS29⟩; refine ⟨_, rfl, ?_⟩
  replace hS29 := hS29.join rfl; dsimp only [List.dropLast, List.cons_append, List.nil_append] at hS29; clear hC29
  clear hS10
  refine wl_move rfl rfl ?_
  refine wl_extract rfl rfl rfl ?_
  refine wl_extract rfl rfl rfl ?_
  refine wl_assign rfl rfl ?_
  refine wl_assign rfl rfl ?_
  refine wl_nil ?_
  refine qs_seq ?_
  refine wc_sub (L' := [(15, _), (14, _), (5, _), (7, _), (9, _)]) (.cons rfl (.cons rfl (.cons rfl (.cons rfl (.cons rfl .nil))))) ?_
  refine wc_seq ?_
  refine wc_seq ?_
  refine wc_region ?_
  refine wl_move rfl rfl ?_
  refine wl_neq rfl rfl rfl ?_
  refine wl_move rfl rfl ?_
  refine wl_splitD 153 rfl (fun h30 => ?_) (fun h30 => ?_)
  · skip
    exact absurd rfl h30
  refine wl_guard rfl rfl (decide_eq_false h30) ?_
  refine wl_move rfl rfl ?_
  refine wl_guard rfl rfl (decide_eq_false h30) ?_
  refine wl_eqlNil Tryz.underlying27 rfl rfl rfl ?_
  refine wl_pickF rfl (decide_eq_false h30) rfl rfl ?_
  refine wl_nil ?_
  refine qs_seq ?_
  refine wc_sub (L' := [(156, _), (14, _), (5, _), (7, _), (9, _)]) (.cons rfl (.cons rfl (.cons rfl (.cons rfl (.cons rfl .nil))))) ?_
  refine wc_condF rfl ?_
  refine wc_skip ?_
  refine qs_seq ?_
  refine wc_seq ?_
  refine wc_region ?_
  refine wl_assign rfl rfl ?_
  refine wl_nil ?_
  refine qs_seq ?_
  refine wc_seq ?_
  refine wc_seq ?_
  refine wc_region ?_
  refine wl_assign rfl rfl ?_
  refine wl_nil ?_
  refine qs_seq ?_
  refine wc_block ?_
  have hSn := hS29.row_nil jbC
  refine wc_loop (fun K0 E0 W0 => ∃ (n : Nat) (wv : Value), K0 = 2048 - n ∧ E0 = [(5, .bool true), (7, ptrV jp 0), (9, .slice (some ⟨db, 0, none⟩) 2048 2048), (14, ptrV jp2 0), (16, wv), (17, intV (n : Int))] ∧ Sat W0 [jT jp dp ⟨base, C, B, false⟩, jT jp2 dp ⟨base, C4, B, false⟩, dT dp D4, rowT stC (.slice (some ⟨db, 0, none⟩) 2048 2048) (dataB B), rowT jbC wv (listN B n), F] ∧ (n ≤ 2048)) (L0 := [(5, _), (7, _), (9, _), (14, _), (16, _), (17, _)]) (2048 - 0) (.cons rfl (.cons rfl (.cons rfl (.cons rfl (.cons rfl (.cons rfl .nil)))))) ⟨0, _, rfl, rfl, hSn.pick [3, 1, 2, 4, 0, 5] rfl, by omega⟩ ?_
  rintro _ _ w31 ⟨n, wv, rfl, rfl, hS31, hn⟩
  have h1wv : wv.oneCell' = true := hS31.own_one 4 rfl
  have hwl := listN_len B n
  refine wc_seq ?_
  refine wc_seq ?_
  refine wc_region ?_
  refine wl_move rfl rfl ?_
  refine wl_lss rfl rfl rfl ?_
  refine wl_nil ?_
  refine qs_seq ?_
  refine wc_condD rfl (fun h32 => ?_) (fun h32 => ?_)
  · skip
    have hdn : (dataB B)[n]? = some (B n) := data_at B (by omega)
    refine wc_skip ?_
    refine qs_seq ?_
    refine wc_seq ?_
    refine wc_block ?_
    refine wc_seq ?_
    refine wc_seq ?_
    have hS33 := hS31.drew
    refine wc_draw [0, 1, 3, 4, 5, 6, 2, 7, 8, 9, 10, 12, 13, 14, 15, 11, 16, 17] [2, 11] mix (by kernel_rfl) ?_
    refine vc_p rfl rfl rfl (fun _ => (ev_move rfl)) ?_
    refine vc_p rfl rfl rfl (fun _ => (ev_move rfl)) ?_
    refine vc_p rfl rfl rfl (fun _ => (ev_move rfl)) ?_
    refine vc_p rfl rfl rfl (fun _ => (ev_move rfl)) ?_
    refine vc_p rfl rfl rfl (fun _ => (ev_indexAddr n rfl rfl (by first | rfl | omega) (by omega) es_31)) ?_
    refine vc_q rfl rfl rfl (ev_rowLoad0 stC 3 n 0 hS33 rfl hdn ag_9 rfl rfl) ?_
    refine vc_s rfl rfl rfl rfl rfl rfl ?_
    have hC34 := hS33.split [0] [true, false, false, false, false, false] rfl; dsimp only [selF, pickA, nthA, List.cons_append, List.nil_append] at hC34
    refine wl_call cal_11 rfl (jread hC34 (n : Int)) rfl ?_
    rintro e w34 ⟨_, rfl, rfl, hS34⟩; refine ⟨_, rfl, ?_⟩
    replace hS34 := hS34.join rfl; dsimp only [List.dropLast, List.cons_append, List.nil_append] at hS34; clear hC34
    clear hS33
    refine vc_e (.cons (.inl ⟨rfl, (ev_rowLoad0 stC 3 n 0 hS34 rfl hdn ag_9 rfl rfl)⟩) .nil) ?_
    refine vc_p rfl rfl rfl (fun _ => (ev_neqS rfl rfl)) ?_
    refine vc_p rfl rfl rfl (fun _ => (ev_move rfl)) ?_
    refine vc_splitD 169 rfl (fun h35 => ?_) (fun h35 => ?_)
    · skip
      exact absurd rfl h35
    refine vc_p rfl rfl (guard_yes rfl rfl (decide_eq_false h35)) (fun _ => (Ev.gd (ev_move rfl))) ?_
    refine vc_p rfl rfl (guard_yes rfl rfl (decide_eq_false h35)) (fun _ => (Ev.gd (ev_move rfl))) ?_
    refine vc_p rfl rfl (guard_yes rfl rfl (decide_eq_false h35)) (fun _ => (Ev.gd (ev_move rfl))) ?_
    refine vc_p rfl rfl (guard_yes rfl rfl (decide_eq_false h35)) (fun _ => (Ev.gd (ev_move rfl))) ?_
    refine vc_p rfl rfl (guard_yes rfl rfl (decide_eq_false h35)) (fun _ => (Ev.gd (ev_indexAddr n rfl rfl (by first | rfl | omega) (by omega) es_31))) ?_
    refine vc_q rfl rfl (guard_yes rfl rfl (decide_eq_false h35)) (Ev.gd (ev_rowLoad0 stC 3 n 0 hS34 rfl hdn ag_9 rfl rfl)) ?_
    refine vc_s rfl rfl (guard_yes rfl rfl (decide_eq_false h35)) rfl rfl rfl ?_
    have hC36 := hS34.split [1] [false, true, false, false, false, false] rfl; dsimp only [selF, pickA, nthA, List.cons_append, List.nil_append] at hC36
    refine wl_call cal_11 rfl (jread hC36 (n : Int)) rfl ?_
    rintro e w36 ⟨_, rfl, rfl, hS36⟩; refine ⟨_, rfl, ?_⟩
    replace hS36 := hS36.join rfl; dsimp only [List.dropLast, List.cons_append, List.nil_append] at hS36; clear hC36
    clear hS34
    refine vc_e (.cons (.inl ⟨(guard_yes rfl rfl (decide_eq_false h35)), (Ev.gd (ev_rowLoad0 stC 3 n 0 hS36 rfl hdn ag_9 rfl rfl))⟩) (.skip (by kernel_rfl) .nil)) ?_
    refine vc_p rfl rfl (guard_yes rfl rfl (decide_eq_false h35)) (fun _ => (Ev.gd (ev_neqS rfl rfl))) ?_
    refine vc_p rfl rfl rfl (fun _ => (ev_pickF rfl (decide_eq_false h35) rfl)) ?_
    refine VC.nil ?_
    refine qs_seq ?_
    refine wc_sub (L' := [(178, _), (5, _), (7, _), (9, _), (14, _), (16, _), (17, _)]) (.cons rfl (.cons rfl (.cons rfl (.cons rfl (.cons rfl (.cons rfl (.cons rfl .nil))))))) ?_
    refine wc_condD rfl (fun h37 => ?_) (fun h37 => ?_)
    · skip
      exact absurd rfl h37
    refine wc_skip ?_
    refine qs_seq ?_
    refine wc_seq ?_
    refine wc_region ?_
    refine wl_move rfl rfl ?_
    refine wl_move rfl rfl ?_
    refine wl_rowIdx stC 3 n hS36 rfl rfl rfl (by first | rfl | omega) hdn es_31 rfl ?_
    intro bx38 capx38 hvx38
    refine wl_rowLoad 3 n 0 hS36 rfl hvx38 rfl rfl hdn ag_9 rfl rfl ?_
    refine wl_neqS rfl rfl rfl ?_
    refine wl_nil ?_
    refine qs_seq ?_
    refine wc_sub (L' := [(183, _), (5, _), (7, _), (9, _), (14, _), (16, _), (17, _)]) (.cons rfl (.cons rfl (.cons rfl (.cons rfl (.cons rfl (.cons rfl (.cons rfl .nil))))))) ?_
    refine wc_condD rfl (fun h39 => ?_) (fun h39 => ?_)
    · skip
      have hnb : ¬ B (n : Int) = [] := h39
      refine wc_region ?_
      refine wl_move rfl rfl ?_
      refine wl_move rfl rfl ?_
      refine wl_move rfl rfl ?_
      refine wl_move rfl rfl ?_
      refine wl_rowIdx stC 3 n hS36 rfl rfl rfl (by first | rfl | omega) hdn es_31 rfl ?_
      intro bx40 capx40 hvx40
      refine wl_rowLoad 3 n 0 hS36 rfl hvx40 rfl rfl hdn ag_9 rfl rfl ?_
      refine wl_buildS rfl pl_34_0_1 asz_34 zr_34 rfl rfl ?_
      refine wl_rowBuild jbC [⟨(n : Int), B n⟩] hS36 rfl Tryz.underlying32 ifz_34 rfl rfl rfl rfl (by first | rfl | simp [RowC.cells, fillL, splice]) rfl ?_
      intro b41 w41 hS41
      clear hS36
      refine wl_rowApp jbC 5 hS41 rfl rfl rfl (hS41.rd 0 rfl (by simp)) Tryz.underlying32 Tryz.underlying32 (by intro k hk; cases hk) ifo_34 rfl (by simp only [List.length_cons, List.length_nil]; omega) rfl (by simp only [List.length_cons, List.length_nil]; omega) ?_
      intro v42 w42 hS42; dsimp only [List.set] at hS42
      clear hS41
      have h1v42 : v42.oneCell' = true := hS42.own_one 5 rfl
      refine wl_assign rfl rfl ?_
      refine wl_nil ?_
      refine qs_block_normal ?_
      refine qs_seq ?_
      refine wc_sub (L' := [(16, _), (5, _), (7, _), (9, _), (14, _), (17, _)]) (.cons rfl (.cons rfl (.cons rfl (.cons rfl (.cons rfl (.cons rfl .nil)))))) ?_
      refine wc_region ?_
      refine wl_move rfl rfl ?_
      refine wl_add rfl rfl (by first | omega | (simp; omega)) (by first | omega | (simp; omega)) rfl ?_
      refine wl_assign rfl rfl ?_
      refine wl_nil ?_
      exact qs_round (L1 := [(5, _), (7, _), (9, _), (14, _), (16, _), (17, intV ((n + 1 : Nat) : Int))]) (.cons rfl (.cons rfl (.cons rfl (.cons rfl (.cons rfl (.cons rfl .nil)))))) (k1 := 2048 - (n + 1)) (by omega) ⟨n + 1, _, rfl, rfl, by rw [listN_succ, if_neg hnb]; exact hS42.pick [2, 1, 3, 4, 5, 6] rfl, by omega⟩
    have hnb : B (n : Int) = [] := Decidable.not_not.1 h39
    refine wc_skip ?_
    refine qs_block_normal ?_
    refine qs_seq ?_
    refine wc_region ?_
    refine wl_move rfl rfl ?_
    refine wl_add rfl rfl (by first | omega | (simp; omega)) (by first | omega | (simp; omega)) rfl ?_
    refine wl_assign rfl rfl ?_
    refine wl_nil ?_
    exact qs_round (L1 := [(5, _), (7, _), (9, _), (14, _), (16, _), (17, intV ((n + 1 : Nat) : Int))]) (.cons rfl (.cons rfl (.cons rfl (.cons rfl (.cons rfl (.cons rfl .nil)))))) (k1 := 2048 - (n + 1)) (by omega) ⟨n + 1, _, rfl, rfl, by rw [listN_succ, if_pos hnb, List.append_nil]; exact hS36.pick [1, 0, 2, 3, 4, 5] rfl, by omega⟩
  refine wc_exit ?_
  refine qs_then_exit ?_
  refine qs_then_exit ?_
  refine qs_block_exit ?_
  refine qs_seq ?_
  refine wc_seq ?_
  obtain rfl : n = 2048 := by omega
  have hwn : decide (listB B = listN B 2048) = true := decide_eq_true (listN_all B).symm
  refine wc_region ?_
  refine wl_move rfl rfl ?_
  refine wl_move rfl rfl ?_
  refine wl_guard rfl rfl rfl ?_
  refine wl_move rfl rfl ?_
  refine wl_guard rfl rfl rfl ?_
  have hC43 := hS31.split [0] [true, false, false, false, false, false] rfl; dsimp only [selF, pickA, nthA, List.cons_append, List.nil_append] at hC43
  refine wl_call cal_13 rfl (jblocks hC43) rfl ?_
  rintro e w43 ⟨_, rfl, hS43⟩; refine ⟨_, rfl, ?_⟩
  replace hS43 := hS43.join rfl; dsimp only [List.dropLast, List.cons_append, List.nil_append] at hS43; clear hC43
  clear hS31
  refine wl_guard rfl rfl rfl ?_
  refine wl_move rfl rfl ?_
  refine wl_guard rfl rfl rfl ?_
  have hC44 := hS43.split [] [false, false, false, false, false, false, false] rfl; dsimp only [selF, pickA, nthA, List.cons_append, List.nil_append] at hC44
  refine wl_call cal_12 rfl (bsame_sp hC44 (Ent.starL (ent_row (C := jbC) (l := listB B) (by have := listB_len B; omega)) 0 rfl) (Ent.starL (ent_row (C := jbC) (l := listN B 2048) (by omega)) 5 rfl)) rfl ?_
  rintro e w44 ⟨_, rfl, rfl, hS44⟩; refine ⟨_, rfl, ?_⟩
  replace hS44 := hS44.join rfl; dsimp only [List.dropLast, List.cons_append, List.nil_append] at hS44; clear hC44
  clear hS43
  rw [hwn]
  refine wl_pickT rfl rfl rfl rfl ?_
  refine wl_move rfl rfl ?_
  refine wl_split 200 rfl (fun h45 => ?_) (fun h45 => ?_)
  · skip
    refine wl_guard rfl rfl h45 ?_
    refine wl_move rfl rfl ?_
    refine wl_guard rfl rfl h45 ?_
    have hC46 := hS44.split [2] [false, false, true, false, false, false, false] rfl; dsimp only [selF, pickA, nthA, List.cons_append, List.nil_append] at hC46
    refine wl_call cal_13 rfl (jblocks hC46) rfl ?_
    rintro e w46 ⟨_, rfl, hS46⟩; refine ⟨_, rfl, ?_⟩
    replace hS46 := hS46.join rfl; dsimp only [List.dropLast, List.cons_append, List.nil_append] at hS46; clear hC46
    clear hS44
    refine wl_guard rfl rfl h45 ?_
    refine wl_move rfl rfl ?_
    refine wl_guard rfl rfl h45 ?_
    have hC47 := hS46.split [] [false, false, false, false, false, false, false, false] rfl; dsimp only [selF, pickA, nthA, List.cons_append, List.nil_append] at hC47
    refine wl_call cal_12 rfl (bsame_sp hC47 (Ent.starL (ent_row (C := jbC) (l := listB B) (by have := listB_len B; omega)) 0 rfl) (Ent.starL (ent_row (C := jbC) (l := listN B 2048) (by omega)) 6 rfl)) rfl ?_
    rintro e w47 ⟨_, rfl, rfl, hS47⟩; refine ⟨_, rfl, ?_⟩
    replace hS47 := hS47.join rfl; dsimp only [List.dropLast, List.cons_append, List.nil_append] at hS47; clear hC47
    clear hS46
    rw [hwn]
    refine wl_pickT rfl h45 rfl rfl ?_
    refine wl_move rfl rfl ?_
    refine wl_split 206 rfl (fun h48 => ?_) (fun h48 => ?_)
    · skip
      refine wl_guard rfl rfl h48 ?_
      refine wl_move rfl rfl ?_
      refine wl_guard rfl rfl h48 ?_
      have hC49 := hS47.split [3] [false, false, false, true, false, false, false, false] rfl; dsimp only [selF, pickA, nthA, List.cons_append, List.nil_append] at hC49
      refine wl_call cal_11 rfl (jread hC49 (-1)) rfl ?_
      rintro e w49 ⟨_, rfl, rfl, hS49⟩; refine ⟨_, rfl, ?_⟩
      replace hS49 := hS49.join rfl; dsimp only [List.dropLast, List.cons_append, List.nil_append] at hS49; clear hC49
      clear hS47
      refine wl_guard rfl rfl h48 ?_
      refine wl_eqlS rfl rfl rfl ?_
      refine wl_pickT rfl h48 rfl rfl ?_
      refine wl_move rfl rfl ?_
      refine wl_splitD 211 rfl (fun h50 => ?_) (fun h50 => ?_)
      · skip
        refine wl_guard rfl rfl (decide_eq_true h50) ?_
        refine wl_move rfl rfl ?_
        refine wl_guard rfl rfl (decide_eq_true h50) ?_
        have hC51 := hS49.split [0] [true, false, false, false, false, false, false, false] rfl; dsimp only [selF, pickA, nthA, List.cons_append, List.nil_append] at hC51
        refine wl_call cal_11 rfl (jread hC51 2048) rfl ?_
        rintro e w51 ⟨_, rfl, rfl, hS51⟩; refine ⟨_, rfl, ?_⟩
        replace hS51 := hS51.join rfl; dsimp only [List.dropLast, List.cons_append, List.nil_append] at hS51; clear hC51
        clear hS49
        refine wl_guard rfl rfl (decide_eq_true h50) ?_
        refine wl_eqlS rfl rfl rfl ?_
        refine wl_pickT rfl (decide_eq_true h50) rfl rfl ?_
        refine wl_assign rfl rfl ?_
        refine wl_nil ?_
        refine qs_seq ?_
        refine wc_sub (L' := [(4, _)]) (.cons rfl .nil) ?_
        refine wc_ret ?_
        refine fin1 (.inr rfl) rfl rfl ?_
        exact ⟨_, rfl, by rw [decide_eq_true (hran 2048 (by omega))], hS51.pick [7] rfl⟩
      exact absurd (hran (-1) (by omega)) h50
    cases h48
  cases h45
end Go.Proofs.YtfmkodmmbgibgaaGreatDoor
