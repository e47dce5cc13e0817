/- reference 28: New, Reparent; model, ints -/
import Derived.Test.YtcbdclhoekokpaaGreatDoorPe6
import Derived.ChangeKeysEq
import Derived.Laws.StructEq
namespace Go.Proofs.YtcbdclhoekokpaaGreatDoor
open Go.RowKit M
set_option linter.unusedVariables false
theorem repT_ok {W : WS} {n : Nat} {pr : ProcD → Bool} {kl : List Bs} (h0 : PInv W n) (hk : KeysOf W.cells [80, 47] kl) (i : Nat) : PInv (repW W ((recsF W pr kl).take i)) n := by
  refine repW_inv h0 (fun x hx => ?_) h0.tb fun k hk => hk
  obtain ⟨_, h2⟩ := (mem_recs hk).1 (List.mem_of_mem_take hx)
  obtain ⟨h3, h4⟩ := getW_wf h0.tb h2
  obtain ⟨_, h5, _⟩ := getW_some h2
  exact ⟨h3, h4, fun q => by rw [q, dec_nil] at h5; cases h5⟩
theorem repT_get {W : WS} {pr : ProcD → Bool} {kl : List Bs} (hB : TB W) (hk : KeysOf W.cells [80, 47] kl) {i : Nat} {x : ProcD} (hx : (recsF W pr kl)[i]? = some x) : getW (repW W ((recsF W pr kl).take i)) (hq x 0) = some x := by
  have hm := List.mem_of_getElem? hx
  rw [getW_repW_no (fun y hy => recs_ok hB hk y (List.mem_of_mem_take hy)) fun y hy => ?_]
  · exact ((mem_recs hk).1 hm).2
  · obtain ⟨j, hj⟩ := List.mem_iff_getElem?.1 hy
    rw [List.getElem?_take] at hj
    split at hj
    · rename_i hlt
      have ha := recs_asc (W := W) (pr := pr) hk
      obtain ⟨i1, e1⟩ := List.getElem?_eq_some_iff.1 hj
      obtain ⟨i2, e2⟩ := List.getElem?_eq_some_iff.1 hx
      have := List.pairwise_iff_getElem.1 ha j i i1 i2 hlt
      rw [e1, e2] at this; omega
    · cases hj
theorem repT_succ {W : WS} {l : List ProcD} {i : Nat} {x : ProcD} (hx : l[i]? = some x) : repW W (l.take (i + 1)) = repF (repW W (l.take i)) x := by
  unfold repW; rw [List.take_add_one, hx, List.foldl_append]; rfl
theorem pidsF_at {W : WS} {pr : ProcD → Bool} {kl : List Bs} {i : Nat} {z : Int} (h : (pidsF W pr kl)[i]? = some z) : ∃ x, (recsF W pr kl)[i]? = some x ∧ z = hq x 0 := by
  unfold pidsF at h; rw [List.getElem?_map] at h
  obtain ⟨x, h1, h2⟩ := Option.map_eq_some_iff.1 h
  exact ⟨x, h1, h2.symm⟩
theorem pidsF_some {W : WS} {kl : List Bs} (hk : KeysOf W.cells [80, 47] kl) {n : Int} (h : (getW W n).isSome = true) : n ∈ pidsF W (fun _ => true) kl := by
  obtain ⟨x, hx⟩ := optYes h
  exact (mem_pids hk).2 ⟨x, hx, rfl⟩
theorem pidsF_none {W : WS} {kl : List Bs} (hk : KeysOf W.cells [80, 47] kl) {n : Int} (h : (getW W n).isSome = false) : n ∉ pidsF W (fun _ => true) kl := fun q => by
  obtain ⟨x, hx, _⟩ := (mem_pids hk).1 q
  rw [optNo h] at hx; cases hx
set_option maxRecDepth 100000 in
set_option maxHeartbeats 1000000 in
theorem qNew_sp {w : World} {p n : Nat} {W : WS} {F : Th} (hS : Sat w [refP p W n, F]) (hn : n ≤ 900) (hB : TB W) (block : Int) :
    Calls Tryz.prog 35 #[ptrV p 0, intV block] w (Ret fun v w' => ∃ m e, v = .tuple #[intV m, intV e] ∧ ((block < 0 ∨ block > 15623) ∧ m = 0 ∧ e = 1 ∨ ∃ kl, KeysOf W.cells [80, 47] kl ∧ NewP block (pidsF W (fun _ => true) kl) m e) ∧ Sat w' [refP p W n, F]) := by
  refine calls_enter Tryz.func35 rfl Tryz.ntmps35 rfl ?_
  refine wc_seq ?_
  refine wc_region ?_
  refine wl_assign rfl rfl ?_
  refine wl_assign rfl rfl ?_
  refine wl_nil ?_
  refine qs_seq ?_
  refine wc_seq ?_
  refine wc_seq ?_
  refine wc_region ?_
  refine wl_move rfl rfl ?_
  refine wl_lss rfl rfl rfl ?_
  refine wl_move rfl rfl ?_
  refine wl_splitD 11 rfl (fun h1 => ?_) (fun h1 => ?_)
  · skip
    refine wl_unwanted rfl rfl (decide_eq_true h1) rfl ?_
    refine wl_unwanted rfl rfl (decide_eq_true h1) rfl ?_
    refine wl_pickT rfl (decide_eq_true h1) rfl rfl ?_
    refine wl_nil ?_
    refine qs_seq ?_
    refine wc_condT rfl ?_
    refine wc_seq ?_
    refine wc_region ?_
    refine wl_assign rfl rfl ?_
    refine wl_assign rfl rfl ?_
    refine wl_nil ?_
    refine qs_seq ?_
    refine wc_ret ?_
    refine qs_then_ret ?_
    refine fin2 (.inr rfl) rfl rfl rfl ?_
    exact ⟨_, rfl, 0, 1, rfl, .inl ⟨by simp_all, rfl, rfl⟩, hS.pick [0, 1] rfl⟩
  refine wl_guard rfl rfl (decide_eq_false h1) ?_
  refine wl_move rfl rfl ?_
  refine wl_guard rfl rfl (decide_eq_false h1) ?_
  refine wl_gtr rfl rfl rfl ?_
  refine wl_pickF rfl (decide_eq_false h1) rfl rfl ?_
  refine wl_nil ?_
  refine qs_seq ?_
  refine wc_condD rfl (fun h2 => ?_) (fun h2 => ?_)
  · skip
    refine wc_seq ?_
    refine wc_region ?_
    refine wl_assign rfl rfl ?_
    refine wl_assign rfl rfl ?_
    refine wl_nil ?_
    refine qs_seq ?_
    refine wc_ret ?_
    refine qs_then_ret ?_
    refine fin2 (.inr rfl) rfl rfl rfl ?_
    exact ⟨_, rfl, 0, 1, rfl, .inl ⟨by simp_all, rfl, rfl⟩, hS.pick [0, 1] rfl⟩
  refine wc_skip ?_
  refine qs_seq ?_
  refine wc_seq ?_
  refine wc_seq ?_
  refine wc_region ?_
  refine wl_move rfl rfl ?_
  have hC3 := hS.split [0] [true, false] rfl; dsimp only [selF, pickA, nthA, List.cons_append, List.nil_append] at hC3
  refine wl_call cal_40 rfl (qAll_sp hC3 hn hB) rfl ?_
  rintro e w3 ⟨_, rfl, kl, hkl, hkll, hS3⟩; refine ⟨_, rfl, ?_⟩
  replace hS3 := hS3.join rfl; dsimp only [List.dropLast, List.cons_append, List.nil_append] at hS3; clear hC3
  first | refine wl_lenL Tryz.underlying46 rfl rfl ?_ | refine wl_lenO 0 hS3 Tryz.underlying46 rfl rfl rfl ?_
  refine wl_geq rfl rfl rfl ?_
  refine wl_nil ?_
  refine qs_seq ?_
  refine wc_sub (L' := [(18, _), (5, _), (4, _), (0, _), (1, _)]) (.cons rfl (.cons rfl (.cons rfl (.cons rfl (.cons rfl .nil))))) ?_
  refine wc_condD rfl (fun h4 => ?_) (fun h4 => ?_)
  · skip
    refine wc_seq ?_
    refine wc_region ?_
    refine wl_assign rfl rfl ?_
    refine wl_assign rfl rfl ?_
    refine wl_nil ?_
    refine qs_seq ?_
    refine wc_ret ?_
    refine qs_then_ret ?_
    refine fin2 (.inr rfl) rfl rfl rfl ?_
    exact ⟨_, rfl, 0, 6, rfl, .inr ⟨kl, hkl, fun q => absurd q (by omega), fun _ _ => ⟨rfl, rfl⟩, fun _ q => absurd q (by omega)⟩, hS3.pick [1, 2] rfl⟩
  refine wc_skip ?_
  refine qs_seq ?_
  refine wc_seq ?_
  refine wc_seq ?_
  refine wc_region ?_
  refine wl_assign rfl rfl ?_
  refine wl_nil ?_
  refine qs_seq ?_
  refine wc_block ?_
  refine wc_loop (fun K0 E0 W0 => ∃ (i : Nat), K0 = 64 - i ∧ E0 = [(0, ptrV p 0), (1, intV block), (6, intV (i : Int))] ∧ Sat W0 [refP p W n, F] ∧ (i ≤ 64) ∧ (1 ≤ i) ∧ (∀ m : Int, 64 * block < m → m < 64 * block + i → m ∈ (pidsF W (fun _ => true) kl))) (L0 := [(0, _), (1, _), (6, _)]) (64 - 1) (.cons rfl (.cons rfl (.cons rfl .nil))) ⟨1, rfl, rfl, hS3.pick [1, 2] rfl, by omega, by omega, fun m h1 h2 => by omega⟩ ?_
  rintro _ _ w5 ⟨i, rfl, rfl, hS5, hi, hi1, hall⟩
  refine wc_seq ?_
  refine wc_seq ?_
  refine wc_region ?_
  refine wl_move rfl rfl ?_
  refine wl_lss rfl rfl rfl ?_
  refine wl_nil ?_
  refine qs_seq ?_
  refine wc_condD rfl (fun h6 => ?_) (fun h6 => ?_)
  · skip
    refine wc_skip ?_
    refine qs_seq ?_
    refine wc_seq ?_
    refine wc_block ?_
    refine wc_seq ?_
    refine wc_region ?_
    refine wl_move rfl rfl ?_
    refine wl_move rfl rfl ?_
    refine wl_mul rfl rfl (by first | omega | (simp; omega)) (by first | omega | (simp; omega)) rfl ?_
    refine wl_move rfl rfl ?_
    refine wl_add rfl rfl (by first | omega | (simp; omega)) (by first | omega | (simp; omega)) rfl ?_
    have hC7 := hS5.split [0] [true, false] rfl; dsimp only [selF, pickA, nthA, List.cons_append, List.nil_append] at hC7
    refine wl_call cal_36 rfl (qGetP_sp hC7 hn hB (64 * block + i)) rfl ?_
    rintro e w7 ⟨_, rfl, av, fv, rfl, hS7⟩; refine ⟨_, rfl, ?_⟩
    replace hS7 := hS7.join rfl; dsimp only [List.dropLast, List.cons_append, List.nil_append] at hS7; clear hC7
    clear hS5
    refine wl_move rfl rfl ?_
    refine wl_extract rfl rfl rfl ?_
    refine wl_extract rfl rfl rfl ?_
    have hone := procV_one (x := ((getW W (64 * block + i)).getD zeroP)) (hS7.own_one 0 rfl) (hS7.own_one 1 rfl)
    refine wl_alloc hS7 zr_38 rfl rfl ?_
    intro bq w8 hS8
    clear hS7
    refine wl_storeA hS8 rfl rfl sz_38 rfl (by first | rfl | (simp [allOne, Value.oneCell']; done) | assumption) (i := 0) rfl (by first | decide | exact Nat.le_of_ble_eq_true rfl | (simp; done) | omega) ?_
    intro w9 hS9; dsimp only [List.set] at hS9
    clear hS8
    rw [splice_all _ _ (by rfl)] at hS9
    refine wl_assign rfl rfl ?_
    refine wl_nil ?_
    refine qs_seq ?_
    refine wc_sub (L' := [(8, _), (0, _), (1, _), (6, _)]) (.cons rfl (.cons rfl (.cons rfl (.cons rfl .nil)))) ?_
    refine wc_seq ?_
    refine wc_region ?_
    refine wl_move rfl rfl ?_
    refine wl_not rfl rfl ?_
    refine wl_nil ?_
    refine qs_seq ?_
    refine wc_cond rfl (fun h10 => ?_) (fun h10 => ?_)
    · skip
      refine wc_seq ?_
      refine wc_region ?_
      refine wl_move rfl rfl ?_
      refine wl_mul rfl rfl (by first | omega | (simp; omega)) (by first | omega | (simp; omega)) rfl ?_
      refine wl_move rfl rfl ?_
      refine wl_add rfl rfl (by first | omega | (simp; omega)) (by first | omega | (simp; omega)) rfl ?_
      refine wl_assign rfl rfl ?_
      refine wl_assign rfl rfl ?_
      refine wl_nil ?_
      refine qs_seq ?_
      refine wc_sub (L' := [(5, _), (4, _), (0, _), (1, _), (6, _)]) (.cons rfl (.cons rfl (.cons rfl (.cons rfl (.cons rfl .nil))))) ?_
      refine wc_ret ?_
      refine qs_block_ret ?_
      refine qs_then_ret ?_
      refine qs_then_ret ?_
      refine qs_block_ret ?_
      refine qs_then_ret ?_
      refine fin2 (.inr rfl) rfl rfl rfl ?_
      exact ⟨_, rfl, _, 0, rfl, .inr ⟨kl, hkl, fun q => absurd q (by omega), fun _ q => absurd q (by omega), fun _ _ => .inl ⟨rfl, by omega, by omega, pidsF_none hkl (by simpa using h10), hall⟩⟩, hS9.pick [3, 4] rfl⟩
    refine wc_skip ?_
    refine qs_block_normal ?_
    refine qs_seq ?_
    refine wc_region ?_
    refine wl_move rfl rfl ?_
    refine wl_add rfl rfl (by first | omega | (simp; omega)) (by first | omega | (simp; omega)) rfl ?_
    refine wl_assign rfl rfl ?_
    refine wl_nil ?_
    exact qs_round (L1 := [(0, _), (1, _), (6, intV ((i + 1 : Nat) : Int))]) (.cons rfl (.cons rfl (.cons rfl .nil))) (k1 := 64 - (i + 1)) (by omega) ⟨i + 1, rfl, rfl, hS9.pick [3, 4] rfl, by omega, by omega, fun m h1 h2 => by by_cases e : m = 64 * block + i; (rw [e]; exact pidsF_some hkl (by simpa using h10)); exact hall m h1 (by omega)⟩
  refine wc_exit ?_
  refine qs_then_exit ?_
  refine qs_then_exit ?_
  refine qs_block_exit ?_
  refine qs_seq ?_
  refine wc_seq ?_
  refine wc_region ?_
  refine wl_assign rfl rfl ?_
  refine wl_assign rfl rfl ?_
  refine wl_nil ?_
  refine qs_seq ?_
  refine wc_ret ?_
  refine fin2 (.inr rfl) rfl rfl rfl ?_
  exact ⟨_, rfl, 0, 6, rfl, .inr ⟨kl, hkl, fun q => absurd q (by omega), fun _ q => absurd q (by omega), fun _ _ => .inr ⟨rfl, rfl, fun m h1 h2 => hall m h1 (by omega)⟩⟩, hS5.pick [0, 1] rfl⟩
set_option maxRecDepth 100000 in
set_option maxHeartbeats 1000000 in
theorem qRep_sp {w : World} {p n : Nat} {W : WS} {F : Th} (hS : Sat w [refP p W n, F]) (hn : n ≤ 900) (hP : PInv W n) (pid : Int) :
    Calls Tryz.prog 75 #[ptrV p 0, intV pid] w (Ret fun v w' => v = .tuple #[] ∧ ∃ W', RepP W pid W' ∧ Sat w' [refP p W' n, F]) := by
  refine calls_enter Tryz.func75 rfl Tryz.ntmps75 rfl ?_
  refine wc_seq ?_
  refine wc_region ?_
  refine wl_move rfl rfl ?_
  refine wl_move rfl rfl ?_
  have hC1 := hS.split [0] [true, false] rfl; dsimp only [selF, pickA, nthA, List.cons_append, List.nil_append] at hC1
  refine wl_call cal_41 rfl (qChildren_sp hC1 hn hP.tb pid) rfl ?_
  rintro e w1 ⟨_, rfl, kl, hkl, hkll, hS1⟩; refine ⟨_, rfl, ?_⟩
  replace hS1 := hS1.join rfl; dsimp only [List.dropLast, List.cons_append, List.nil_append] at hS1; clear hC1
  refine wl_assign rfl rfl ?_
  refine wl_nil ?_
  refine qs_seq ?_
  refine wc_seq ?_
  refine wc_region ?_
  refine wl_assign rfl rfl ?_
  refine wl_nil ?_
  refine qs_seq ?_
  refine wc_block ?_
  refine wc_loop (fun K0 E0 W0 => ∃ (i : Nat) (lv : Value), K0 = (pidsF W (fun x => decide (hq x 1 = pid)) kl).length - i ∧ E0 = [(0, ptrV p 0), (1, intV pid), (4, lv), (5, intV (i : Int))] ∧ Sat W0 [rowT inC lv (pidsF W (fun x => decide (hq x 1 = pid)) kl), refP p (repW W ((recsF W (fun x => decide (hq x 1 = pid)) kl).take i)) n, F] ∧ (i ≤ (pidsF W (fun x => decide (hq x 1 = pid)) kl).length) ∧ (pid = 1 → i = 0)) (L0 := [(0, _), (1, _), (4, _), (5, _)]) ((pidsF W (fun x => decide (hq x 1 = pid)) kl).length - 0) (.cons rfl (.cons rfl (.cons rfl (.cons rfl .nil)))) ⟨0, _, rfl, rfl, hS1.pick [0, 1, 2] rfl, by omega, fun _ => rfl⟩ ?_
  rintro _ _ w2 ⟨i, lv, rfl, rfl, hS2, hi, hone1⟩
  refine wc_seq ?_
  refine wc_seq ?_
  refine wc_region ?_
  refine wl_move rfl rfl ?_
  refine wl_move rfl rfl ?_
  first | refine wl_lenL Tryz.underlying46 rfl rfl ?_ | refine wl_lenO 0 hS2 Tryz.underlying46 rfl rfl rfl ?_
  refine wl_lss rfl rfl rfl ?_
  refine wl_move rfl rfl ?_
  refine wl_splitD 15 rfl (fun h3 => ?_) (fun h3 => ?_)
  · skip
    refine wl_guard rfl rfl (decide_eq_true h3) ?_
    refine wl_move rfl rfl ?_
    refine wl_guard rfl rfl (decide_eq_true h3) ?_
    refine wl_neq rfl rfl rfl ?_
    refine wl_pickT rfl (decide_eq_true h3) rfl rfl ?_
    refine wl_nil ?_
    refine qs_seq ?_
    refine wc_sub (L' := [(18, _), (0, _), (1, _), (4, _), (5, _)]) (.cons rfl (.cons rfl (.cons rfl (.cons rfl (.cons rfl .nil))))) ?_
    refine wc_condD rfl (fun h4 => ?_) (fun h4 => ?_)
    · skip
      obtain ⟨z, hz⟩ : ∃ z, (pidsF W (fun x => decide (hq x 1 = pid)) kl)[i]? = some z := ⟨_, List.getElem?_eq_getElem (by omega)⟩
      obtain ⟨x, hx, rfl⟩ := pidsF_at hz
      have hPi := repT_ok (pr := (fun x => decide (hq x 1 = pid))) hP hkl i
      have hgx := repT_get hP.tb hkl hx
      have hwx := getW_wf hPi.tb hgx
      have hp1 : pid ≠ 1 := by first | assumption | (simp_all; done)
      refine wc_skip ?_
      refine qs_seq ?_
      refine wc_seq ?_
      refine wc_block ?_
      refine wc_seq ?_
      refine wc_region ?_
      refine wl_move rfl rfl ?_
      refine wl_move rfl rfl ?_
      refine wl_move rfl rfl ?_
      refine wl_rowIdx inC 0 i hS2 rfl rfl rfl (by first | rfl | omega) hz es_46 rfl ?_
      intro bx5 capx5 hvx5
      refine wl_rowLoad 0 i 0 hS2 rfl hvx5 rfl rfl hz ag_3 rfl rfl ?_
      have hC6 := hS2.split [1] [false, true, false] rfl; dsimp only [selF, pickA, nthA, List.cons_append, List.nil_append] at hC6
      refine wl_call cal_36 rfl (qGetP_sp hC6 hn hPi.tb (hq x 0)) rfl ?_
      rintro e w6 ⟨_, rfl, av, fv, rfl, hS6⟩; refine ⟨_, rfl, ?_⟩
      replace hS6 := hS6.join rfl; dsimp only [List.dropLast, List.cons_append, List.nil_append] at hS6; clear hC6
      clear hS2
      rw [hgx] at hS6 ⊢
      dsimp only [Option.getD_some, Option.isSome_some] at hS6 ⊢
      refine wl_move rfl rfl ?_
      refine wl_extract rfl rfl rfl ?_
      refine wl_extract rfl rfl rfl ?_
      have hone := procV_one (x := x) (hS6.own_one 0 rfl) (hS6.own_one 1 rfl)
      refine wl_alloc hS6 zr_38 rfl rfl ?_
      intro bq w7 hS7
      clear hS6
      refine wl_storeA hS7 rfl rfl sz_38 rfl (by first | rfl | (simp [allOne, Value.oneCell']; done) | assumption) (i := 0) rfl (by first | decide | exact Nat.le_of_ble_eq_true rfl | (simp; done) | omega) ?_
      intro w8 hS8; dsimp only [List.set] at hS8
      clear hS7
      rw [splice_all _ _ (by rfl)] at hS8
      refine wl_assign rfl rfl ?_
      refine wl_nil ?_
      refine qs_seq ?_
      refine wc_sub (L' := [(6, _), (0, _), (1, _), (4, _), (5, _)]) (.cons rfl (.cons rfl (.cons rfl (.cons rfl (.cons rfl .nil))))) ?_
      refine wc_seq ?_
      refine wc_region ?_
      refine wl_fieldAddr rfl fo_38_5 rfl ?_
      refine wl_load rfl ag_3 (by first | assumption | exact hS8.cell 0 rfl rfl) rfl ?_
      refine wl_eql rfl rfl rfl ?_
      refine wl_nil ?_
      refine qs_seq ?_
      refine wc_condD rfl (fun h9 => ?_) (fun h9 => ?_)
      · skip
        refine wc_region ?_
        refine wl_move rfl rfl ?_
        refine wl_fieldAddr rfl fo_38_0 rfl ?_
        refine wl_load rfl ag_3 (by first | assumption | exact hS8.cell 0 rfl rfl) rfl ?_
        have hC10 := hS8.split [3] [false, false, false, true, false, false] rfl; dsimp only [selF, pickA, nthA, List.cons_append, List.nil_append] at hC10
        refine wl_call cal_74 rfl (qRmP_sp hC10 hn (hq x 0)) rfl ?_
        rintro e w10 ⟨_, rfl, rfl, hS10⟩; refine ⟨_, rfl, ?_⟩
        replace hS10 := hS10.join rfl; dsimp only [List.dropLast, List.cons_append, List.nil_append] at hS10; clear hC10
        clear hS8
        refine wl_nil ?_
        refine qs_block_normal ?_
        refine qs_seq ?_
        refine wc_sub (L' := [(0, _), (1, _), (4, _), (5, _)]) (.cons rfl (.cons rfl (.cons rfl (.cons rfl .nil)))) ?_
        refine wc_region ?_
        refine wl_move rfl rfl ?_
        refine wl_add rfl rfl (by first | omega | (simp; omega)) (by first | omega | (simp; omega)) rfl ?_
        refine wl_assign rfl rfl ?_
        refine wl_nil ?_
        have hn9 := repT_succ (W := W) hx
        rw [show repF (repW W ((recsF W (fun x => decide (hq x 1 = pid)) kl).take i)) x = rmW (repW W ((recsF W (fun x => decide (hq x 1 = pid)) kl).take i)) (hq x 0) by unfold repF; rw [if_pos (by assumption)]] at hn9
        have hP9 := repT_ok (pr := (fun x => decide (hq x 1 = pid))) hP hkl (i + 1)
        have hR9 := hS10.pick [0, 4, 5] rfl
        rw [← hn9] at hR9
        exact qs_round (L1 := [(0, _), (1, _), (4, _), (5, intV ((i + 1 : Nat) : Int))]) (.cons rfl (.cons rfl (.cons rfl (.cons rfl .nil)))) (k1 := (pidsF W (fun x => decide (hq x 1 = pid)) kl).length - (i + 1)) (by omega) ⟨i + 1, _, rfl, rfl, (refP_few hP9 hR9).reorder [1, 0, 2] rfl, by omega, fun q => absurd q hp1⟩
      refine wc_seq ?_
      refine wc_region ?_
      refine wl_fieldAddr rfl fo_38_1 rfl ?_
      refine wl_store hS8 rfl rfl sz_3 (by first | rfl | assumption | exact hS8.own_one 1 rfl | exact hS8.own_one 2 rfl | exact hS8.own_one 4 rfl) (i := 0) rfl (by rw [procV_len]; omega) ?_
      intro w11 hS11; dsimp only [List.set] at hS11
      clear hS8
      rw [procV_setPar hwx.1] at hS11
      refine wl_nil ?_
      refine qs_seq ?_
      refine wc_region ?_
      refine wl_move rfl rfl ?_
      refine wl_loadA rfl ag_38 sz_38 (by first | exact hS11.blk 0 rfl) (by first | decide | exact Nat.le_of_ble_eq_true rfl | (simp; done) | omega) rfl rfl ?_
      have hC12 := hS11.split [3] [false, false, false, true, false, false] rfl; dsimp only [selF, pickA, nthA, List.cons_append, List.nil_append] at hC12
      refine wl_call cal_76 rfl (qPutP_sp hC12 hn (wfr_setPar hwx.1) (Ent.starL (ent_row (C := arC) (v := av) (l := x.ar) (by have := hwx.1.al; omega)) 1 rfl) (Ent.starL (ent_row (C := stC) (v := fv) (l := x.fds) (by have := hwx.1.fdl; omega)) 2 rfl) (Nat.le_trans (len_setPar hwx.1) hwx.2)) rfl ?_
      rintro e w12 ⟨_, rfl, rfl, hS12⟩; refine ⟨_, rfl, ?_⟩
      replace hS12 := hS12.join rfl; dsimp only [List.dropLast, List.cons_append, List.nil_append] at hS12; clear hC12
      clear hS11
      refine wl_nil ?_
      refine qs_block_normal ?_
      refine qs_seq ?_
      refine wc_sub (L' := [(0, _), (1, _), (4, _), (5, _)]) (.cons rfl (.cons rfl (.cons rfl (.cons rfl .nil)))) ?_
      refine wc_region ?_
      refine wl_move rfl rfl ?_
      refine wl_add rfl rfl (by first | omega | (simp; omega)) (by first | omega | (simp; omega)) rfl ?_
      refine wl_assign rfl rfl ?_
      refine wl_nil ?_
      have hn9 := repT_succ (W := W) hx
      rw [show repF (repW W ((recsF W (fun x => decide (hq x 1 = pid)) kl).take i)) x = putW (repW W ((recsF W (fun x => decide (hq x 1 = pid)) kl).take i)) (setPar x) by unfold repF; rw [if_neg (by assumption)]] at hn9
      have hP9 := repT_ok (pr := (fun x => decide (hq x 1 = pid))) hP hkl (i + 1)
      have hR9 := hS12.pick [0, 4, 5] rfl
      rw [← hn9] at hR9
      exact qs_round (L1 := [(0, _), (1, _), (4, _), (5, intV ((i + 1 : Nat) : Int))]) (.cons rfl (.cons rfl (.cons rfl (.cons rfl .nil)))) (k1 := (pidsF W (fun x => decide (hq x 1 = pid)) kl).length - (i + 1)) (by omega) ⟨i + 1, _, rfl, rfl, (refP_few hP9 hR9).reorder [1, 0, 2] rfl, by omega, fun q => absurd q hp1⟩
    refine wc_exit ?_
    refine qs_then_exit ?_
    refine qs_then_exit ?_
    refine qs_block_exit ?_
    refine fin0 (.inl rfl) rfl ?_
    have hPi := repT_ok (pr := (fun x => decide (hq x 1 = pid))) hP hkl i
    by_cases hp1 : pid = 1
    · obtain rfl := hone1 hp1
      exact ⟨_, rfl, rfl, W, .inl ⟨hp1, rfl⟩, hS2.pick [1, 2] rfl⟩
    · have hge : (pidsF W (fun x => decide (hq x 1 = pid)) kl).length ≤ i := by first | omega | (exfalso; simp_all; done) | (simp_all; omega)
      exact ⟨_, rfl, rfl, _, .inr ⟨hp1, kl, hkl, rfl⟩, (by have e9 : (recsF W (fun x => decide (hq x 1 = pid)) kl).take i = (recsF W (fun x => decide (hq x 1 = pid)) kl) := List.take_of_length_le (by rw [← pidsF_few]; exact hge); rw [e9] at hS2; exact hS2.pick [1, 2] rfl)⟩
  refine wl_unwanted rfl rfl (decide_eq_false h3) rfl ?_
  refine wl_unwanted rfl rfl (decide_eq_false h3) rfl ?_
  refine wl_pickF rfl (decide_eq_false h3) rfl rfl ?_
  refine wl_nil ?_
  refine qs_seq ?_
  refine wc_sub (L' := [(18, _), (0, _), (1, _), (4, _), (5, _)]) (.cons rfl (.cons rfl (.cons rfl (.cons rfl (.cons rfl .nil))))) ?_
  refine wc_condF rfl ?_
  refine wc_exit ?_
  refine qs_then_exit ?_
  refine qs_then_exit ?_
  refine qs_block_exit ?_
  refine fin0 (.inl rfl) rfl ?_
  have hPi := repT_ok (pr := (fun x => decide (hq x 1 = pid))) hP hkl i
  by_cases hp1 : pid = 1
  · obtain rfl := hone1 hp1
    exact ⟨_, rfl, rfl, W, .inl ⟨hp1, rfl⟩, hS2.pick [1, 2] rfl⟩
  · have hge : (pidsF W (fun x => decide (hq x 1 = pid)) kl).length ≤ i := by first | omega | (exfalso; simp_all; done) | (simp_all; omega)
    exact ⟨_, rfl, rfl, _, .inr ⟨hp1, kl, hkl, rfl⟩, (by have e9 : (recsF W (fun x => decide (hq x 1 = pid)) kl).take i = (recsF W (fun x => decide (hq x 1 = pid)) kl) := List.take_of_length_le (by rw [← pidsF_few]; exact hge); rw [e9] at hS2; exact hS2.pick [1, 2] rfl)⟩
set_option maxRecDepth 100000 in
set_option maxHeartbeats 1000000 in
theorem model_sp {w : World} {p n : Nat} {W : WS} {F : Th} (hS : Sat w [refP p W n, F]) (hn : n ≤ 900) (hP : PInv W n) (o : OpR) (hw : WFR o.x) (hl : (encR o.x).length ≤ 1000000) (hA : Ent F (RdL arC o.av o.x.ar)) (hF : Ent F (RdL stC o.fv o.x.fds)) :
    Calls Tryz.prog 27 #[ptrV p 0, .agg (opV o).toArray] w (Ret fun v w' => v = .tuple #[] ∧ ∃ W', DoP W o W' ∧ Sat w' [refP p W' (n + 1), F]) := by
  refine calls_enter Tryz.func27 rfl Tryz.ntmps27 rfl ?_
  refine wc_seq ?_
  refine wc_region ?_
  refine wl_box hS rfl rfl rfl ?_
  intro bo wo hSo0
  have hSo : Sat wo [blkT bo (opV o), refP p W n, F] := hSo0
  refine wl_nil ?_
  refine qs_seq ?_
  refine wc_seq ?_
  refine wc_region ?_
  refine wl_fieldAddr rfl fo_40_0 rfl ?_
  refine wl_load rfl ag_3 (by first | assumption | exact hSo.cell 0 rfl rfl) rfl ?_
  have hC1 := hSo.split [] [false, false, false] rfl; dsimp only [selF, pickA, nthA, List.cons_append, List.nil_append] at hC1
  refine wl_call cal_13 rfl (pick_sp hC1 o.k 4 (by omega)) rfl ?_
  rintro e w1 ⟨_, rfl, rfl, hS1⟩; refine ⟨_, rfl, ?_⟩
  replace hS1 := hS1.join rfl; dsimp only [List.dropLast, List.cons_append, List.nil_append] at hS1; clear hC1
  clear hSo
  refine wl_nil ?_
  refine qs_seq ?_
  refine wc_block ?_
  refine wc_seq ?_
  refine wc_region ?_
  refine wl_eql rfl rfl rfl ?_
  refine wl_assign rfl rfl ?_
  refine wl_nil ?_
  refine qs_seq ?_
  refine wc_condD rfl (fun h2 => ?_) (fun h2 => ?_)
  · skip
    refine wc_region ?_
    refine wl_move rfl rfl ?_
    refine wl_fieldAddr rfl fo_40_1 rfl ?_
    refine wl_fieldAddr rfl fo_38_0 rfl ?_
    refine wl_load rfl ag_3 (by first | assumption | exact hS1.cell 0 rfl rfl) rfl ?_
    have hC3 := hS1.split [1] [false, true, false] rfl; dsimp only [selF, pickA, nthA, List.cons_append, List.nil_append] at hC3
    refine wl_call cal_74 rfl (qRmP_sp hC3 hn (hq o.x 0)) rfl ?_
    rintro e w3 ⟨_, rfl, rfl, hS3⟩; refine ⟨_, rfl, ?_⟩
    replace hS3 := hS3.join rfl; dsimp only [List.dropLast, List.cons_append, List.nil_append] at hS3; clear hC3
    clear hS1
    refine wl_nil ?_
    refine qs_block_normal ?_
    refine fin0 (.inl rfl) rfl ?_
    exact ⟨_, rfl, rfl, _, .inl ⟨by assumption, rfl⟩, hS3.pick [0, 2] rfl⟩
  refine wc_seq ?_
  refine wc_region ?_
  refine wl_eql rfl rfl rfl ?_
  refine wl_assign rfl rfl ?_
  refine wl_nil ?_
  refine qs_seq ?_
  refine wc_condD rfl (fun h4 => ?_) (fun h4 => ?_)
  · skip
    refine wc_region ?_
    refine wl_move rfl rfl ?_
    refine wl_fieldAddr rfl fo_40_1 rfl ?_
    refine wl_fieldAddr rfl fo_38_0 rfl ?_
    refine wl_load rfl ag_3 (by first | assumption | exact hS1.cell 0 rfl rfl) rfl ?_
    have hC5 := hS1.split [1] [false, true, false] rfl; dsimp only [selF, pickA, nthA, List.cons_append, List.nil_append] at hC5
    refine wl_call cal_75 rfl (qRep_sp hC5 hn hP (hq o.x 0)) rfl ?_
    rintro e w5 ⟨_, rfl, rfl, W2, hr, hS5⟩; refine ⟨_, rfl, ?_⟩
    replace hS5 := hS5.join rfl; dsimp only [List.dropLast, List.cons_append, List.nil_append] at hS5; clear hC5
    clear hS1
    refine wl_nil ?_
    refine qs_block_normal ?_
    refine fin0 (.inl rfl) rfl ?_
    exact ⟨_, rfl, rfl, _, .inr (.inl ⟨by assumption, hr⟩), refP_up (by omega) (hS5.pick [0, 2] rfl)⟩
  refine wc_region ?_
  refine wl_move rfl rfl ?_
  refine wl_fieldAddr rfl fo_40_1 rfl ?_
  refine wl_loadA rfl ag_38 sz_38 (by first | exact hS1.blk 0 rfl) (by first | decide | exact Nat.le_of_ble_eq_true rfl | (simp; done) | omega) rfl rfl ?_
  have hC6 := hS1.split [1] [false, true, false] rfl; dsimp only [selF, pickA, nthA, List.cons_append, List.nil_append] at hC6
  refine wl_call cal_76 rfl (qPutP_sp hC6 hn hw (hA.starL 1 rfl) (hF.starL 1 rfl) hl) rfl ?_
  rintro e w6 ⟨_, rfl, rfl, hS6⟩; refine ⟨_, rfl, ?_⟩
  replace hS6 := hS6.join rfl; dsimp only [List.dropLast, List.cons_append, List.nil_append] at hS6; clear hC6
  clear hS1
  refine wl_nil ?_
  refine qs_block_normal ?_
  refine fin0 (.inl rfl) rfl ?_
  exact ⟨_, rfl, rfl, _, .inr (.inr ⟨by omega, rfl⟩), hS6.pick [0, 2] rfl⟩
set_option maxRecDepth 100000 in
theorem intsEq_sp {w : World} {F : Th} (hS : Sat w [F]) {v1 v2 : Value} {l : List Int} (hE1 : Ent F (RdL inC v1 l)) (hE2 : Ent F (RdL inC v2 l)) :
    Calls Tryz.prog 39 #[v1, v2] w (Ret fun v w' => v = .bool true ∧ Sat w' [F]) := by
  obtain ⟨ao1, cap1, rfl, hm1⟩ := (hE1.sat hS 0 rfl).shape
  obtain ⟨ao2, cap2, rfl, hm2⟩ := (hE2.sat hS 0 rfl).shape
  refine calls_enter Tryz.func39 rfl Tryz.ntmps39 rfl ?_
  refine wc_seq ?_
  refine wc_region ?_
  refine wl_assign rfl rfl ?_
  refine wl_nil ?_
  refine qs_seq ?_
  refine wc_seq ?_
  refine wc_seq ?_
  refine wc_region ?_
  refine wl_move rfl rfl ?_
  refine wl_lenL Tryz.underlying46 rfl rfl ?_
  refine wl_move rfl rfl ?_
  refine wl_lenL Tryz.underlying46 rfl rfl ?_
  refine wl_neq rfl rfl rfl ?_
  refine wl_nil ?_
  refine qs_seq ?_
  refine wc_condD rfl (fun h1 => ?_) (fun h1 => ?_)
  · skip
    exact absurd rfl h1
  refine wc_skip ?_
  refine qs_seq ?_
  refine wc_seq ?_
  refine wc_seq ?_
  refine wc_region ?_
  refine wl_assign rfl rfl ?_
  refine wl_nil ?_
  refine qs_seq ?_
  refine wc_block ?_
  refine wc_loop (fun K0 E0 W0 => ∃ (i : Nat), K0 = l.length - i ∧ E0 = [(0, .slice ao1 l.length cap1), (1, .slice ao2 l.length cap2), (5, intV (i : Int))] ∧ Sat W0 [F] ∧ (i ≤ l.length)) (L0 := [(0, _), (1, _), (5, _)]) (l.length - 0) (.cons rfl (.cons rfl (.cons rfl .nil))) ⟨0, rfl, rfl, hS, by omega⟩ ?_
  rintro _ _ w2 ⟨i, rfl, rfl, hS2, hi⟩
  refine wc_seq ?_
  refine wc_seq ?_
  refine wc_region ?_
  refine wl_move rfl rfl ?_
  refine wl_move rfl rfl ?_
  refine wl_lenL Tryz.underlying46 rfl rfl ?_
  refine wl_lss rfl rfl rfl ?_
  refine wl_nil ?_
  refine qs_seq ?_
  refine wc_condD rfl (fun h3 => ?_) (fun h3 => ?_)
  · skip
    obtain ⟨y, hy⟩ : ∃ y, l[i]? = some y := ⟨_, List.getElem?_eq_getElem (by omega)⟩
    obtain ⟨b1, off1, rfl, hc1⟩ := (hE1.sat hS2 0 rfl).get hy
    obtain ⟨b2, off2, rfl, hc2⟩ := (hE2.sat hS2 0 rfl).get hy
    refine wc_skip ?_
    refine qs_seq ?_
    refine wc_seq ?_
    refine wc_block ?_
    refine wc_seq ?_
    have hS4 := hS2.drew
    refine wc_draw [0, 1, 2, 3, 4, 5, 6, 7, 8] [] mix (by kernel_rfl) ?_
    refine vc_p rfl rfl rfl (fun _ => (ev_move rfl)) ?_
    refine vc_p rfl rfl rfl (fun _ => (ev_move rfl)) ?_
    refine vc_p rfl rfl rfl (fun _ => (ev_indexAddr i rfl rfl (by first | rfl | omega) (by omega) es_46)) ?_
    refine vc_q rfl rfl rfl (ev_load rfl ag_3 (hc1 0 _ rfl)) ?_
    refine vc_p rfl rfl rfl (fun _ => (ev_move rfl)) ?_
    refine vc_p rfl rfl rfl (fun _ => (ev_move rfl)) ?_
    refine vc_p rfl rfl rfl (fun _ => (ev_indexAddr i rfl rfl (by first | rfl | omega) (by omega) es_46)) ?_
    refine vc_q rfl rfl rfl (ev_load rfl ag_3 (hc2 0 _ rfl)) ?_
    refine vc_p rfl rfl rfl (fun _ => (ev_neq rfl rfl)) ?_
    refine VC.nil ?_
    refine qs_seq ?_
    refine wc_sub (L' := [(25, _), (0, _), (1, _), (5, _)]) (.cons rfl (.cons rfl (.cons rfl (.cons rfl .nil)))) ?_
    refine wc_condD rfl (fun h5 => ?_) (fun h5 => ?_)
    · skip
      exact absurd rfl h5
    refine wc_skip ?_
    refine qs_block_normal ?_
    refine qs_seq ?_
    refine wc_region ?_
    refine wl_move rfl rfl ?_
    refine wl_add rfl rfl (by first | omega | (simp; omega)) (by first | omega | (simp; omega)) rfl ?_
    refine wl_assign rfl rfl ?_
    refine wl_nil ?_
    exact qs_round (L1 := [(0, _), (1, _), (5, intV ((i + 1 : Nat) : Int))]) (.cons rfl (.cons rfl (.cons rfl .nil))) (k1 := l.length - (i + 1)) (by omega) ⟨i + 1, rfl, rfl, hS4, by omega⟩
  refine wc_exit ?_
  refine qs_then_exit ?_
  refine qs_then_exit ?_
  refine qs_block_exit ?_
  refine qs_seq ?_
  refine wc_seq ?_
  refine wc_region ?_
  refine wl_assign rfl rfl ?_
  refine wl_nil ?_
  refine qs_seq ?_
  refine wc_ret ?_
  refine fin1 (.inr rfl) rfl rfl ?_
  exact ⟨_, rfl, rfl, hS2⟩
end Go.Proofs.YtcbdclhoekokpaaGreatDoor
