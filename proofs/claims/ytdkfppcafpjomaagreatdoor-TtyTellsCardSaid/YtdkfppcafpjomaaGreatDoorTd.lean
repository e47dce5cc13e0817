/- laws of tty: few, do -/
import Derived.Test.YtdkfppcafpjomaaGreatDoorTt4
namespace Go.Proofs.YtdkfppcafpjomaaGreatDoor
open Go.RowKit M
set_option linter.unusedVariables false
set_option maxRecDepth 100000 in
theorem tfew_sp {w : World} {F : Th} (hS : Sat w [F]) {lv : Value} {l : List OpT} (hL : Ent F (OtRd lv l)) :
    Calls Tryz.prog 6 #[lv] w (Ret fun v w' => v = .bool (fewT l) ∧ Sat w' [F]) := by
  obtain ⟨ao, cap, rfl, hmax⟩ := (hL.sat hS 0 rfl).shape
  refine calls_enter Tryz.func6 rfl Tryz.ntmps6 rfl ?_
  refine wc_seq ?_
  refine wc_region ?_
  refine wl_assign rfl rfl ?_
  refine wl_nil ?_
  refine qs_seq ?_
  refine wc_seq ?_
  refine wc_seq ?_
  refine wc_region ?_
  refine wl_assign rfl rfl ?_
  refine wl_nil ?_
  refine qs_seq ?_
  refine wc_block ?_
  refine wc_loop (fun K0 E0 W0 => ∃ (i : Nat), K0 = l.length - i ∧ E0 = [(0, .slice ao l.length cap), (3, intV (i : Int))] ∧ Sat W0 [F] ∧ (i ≤ l.length) ∧ (∀ j o, j < i → l[j]? = some o → okO o = true)) (L0 := [(0, _), (3, _)]) (l.length - 0) (.cons rfl (.cons rfl .nil)) ⟨0, rfl, rfl, hS, by omega, by omega⟩ ?_
  rintro _ _ w1 ⟨i, rfl, rfl, hS1, hi, hok⟩
  refine wc_seq ?_
  refine wc_seq ?_
  refine wc_region ?_
  refine wl_move rfl rfl ?_
  refine wl_move rfl rfl ?_
  refine wl_lenL Tryz.underlying22 rfl rfl ?_
  refine wl_lss rfl rfl rfl ?_
  refine wl_nil ?_
  refine qs_seq ?_
  refine wc_condD rfl (fun h2 => ?_) (fun h2 => ?_)
  · skip
    obtain ⟨o, ho⟩ : ∃ o, l[i]? = some o := ⟨_, List.getElem?_eq_getElem (by omega)⟩
    obtain ⟨⟨b, off, rfl, hc⟩, hil, hin⟩ := (hL.sat hS1 0 rfl).get ho
    have hLo : Ent F (RdL itC o.lv o.l) := fun g => (RdX.elem hL ho g).1
    obtain ⟨ao2, cap2, hlv, hm2⟩ := hil.shape
    have hc4 : (otV o)[4]? = some (.slice ao2 o.l.length cap2) := congrArg some hlv
    refine wc_skip ?_
    refine qs_seq ?_
    refine wc_seq ?_
    refine wc_block ?_
    refine wc_seq ?_
    refine wc_seq ?_
    refine wc_region ?_
    refine wl_move rfl rfl ?_
    refine wl_move rfl rfl ?_
    refine wl_indexAddr i rfl rfl (by first | rfl | omega) (by omega) es_22 rfl ?_
    refine wl_fieldAddr rfl fo_36_3 rfl ?_
    refine wl_load rfl ag_9 (hc 3 _ rfl) rfl ?_
    refine wl_lenS Tryz.underlying9 rfl rfl ?_
    refine wl_gtr rfl rfl rfl ?_
    refine wl_move rfl rfl ?_
    refine wl_splitD 18 rfl (fun h3 => ?_) (fun h3 => ?_)
    · skip
      refine wl_unwanted rfl rfl (decide_eq_true h3) rfl ?_
      refine wl_unwanted rfl rfl (decide_eq_true h3) rfl ?_
      refine wl_unwanted rfl rfl (decide_eq_true h3) rfl ?_
      refine wl_unwanted rfl rfl (decide_eq_true h3) rfl ?_
      refine wl_unwanted rfl rfl (decide_eq_true h3) rfl ?_
      refine wl_unwanted rfl rfl (decide_eq_true h3) rfl ?_
      refine wl_unwanted rfl rfl (decide_eq_true h3) rfl ?_
      refine wl_pickT rfl (decide_eq_true h3) rfl rfl ?_
      refine wl_nil ?_
      refine qs_seq ?_
      refine wc_sub (L' := [(26, _), (0, _), (3, _)]) (.cons rfl (.cons rfl (.cons rfl .nil))) ?_
      refine wc_condT rfl ?_
      refine wc_seq ?_
      refine wc_region ?_
      refine wl_assign rfl rfl ?_
      refine wl_nil ?_
      refine qs_seq ?_
      refine wc_ret ?_
      refine qs_then_ret ?_
      refine qs_block_ret ?_
      refine qs_then_ret ?_
      refine qs_then_ret ?_
      refine qs_block_ret ?_
      refine qs_then_ret ?_
      refine fin1 (.inr rfl) rfl rfl ?_
      exact ⟨_, rfl, by rw [fewT_bad ho (fun q => by have := okO_iff.1 q; omega)], hS1⟩
    · skip
      refine wl_guard rfl rfl (decide_eq_false h3) ?_
      refine wl_move rfl rfl ?_
      refine wl_guard rfl rfl (decide_eq_false h3) ?_
      refine wl_move rfl rfl ?_
      refine wl_guard rfl rfl (decide_eq_false h3) ?_
      refine wl_indexAddr i rfl rfl (by first | rfl | omega) (by omega) es_22 rfl ?_
      refine wl_guard rfl rfl (decide_eq_false h3) ?_
      refine wl_fieldAddr rfl fo_36_4 rfl ?_
      refine wl_guard rfl rfl (decide_eq_false h3) ?_
      refine wl_load rfl ag_34 (hc 4 _ hc4) rfl ?_
      refine wl_guard rfl rfl (decide_eq_false h3) ?_
      refine wl_lenL Tryz.underlying34 rfl rfl ?_
      refine wl_guard rfl rfl (decide_eq_false h3) ?_
      refine wl_gtr rfl rfl rfl ?_
      refine wl_pickF rfl (decide_eq_false h3) rfl rfl ?_
      refine wl_nil ?_
      refine qs_seq ?_
      refine wc_sub (L' := [(26, _), (0, _), (3, _)]) (.cons rfl (.cons rfl (.cons rfl .nil))) ?_
      refine wc_condD rfl (fun h4 => ?_) (fun h4 => ?_)
      · skip
        refine wc_seq ?_
        refine wc_region ?_
        refine wl_assign rfl rfl ?_
        refine wl_nil ?_
        refine qs_seq ?_
        refine wc_ret ?_
        refine qs_then_ret ?_
        refine qs_block_ret ?_
        refine qs_then_ret ?_
        refine qs_then_ret ?_
        refine qs_block_ret ?_
        refine qs_then_ret ?_
        refine fin1 (.inr rfl) rfl rfl ?_
        exact ⟨_, rfl, by rw [fewT_bad ho (fun q => by have := okO_iff.1 q; omega)], hS1⟩
      · skip
        refine wc_skip ?_
        refine qs_seq ?_
        refine wc_seq ?_
        refine wc_region ?_
        refine wl_assign rfl rfl ?_
        refine wl_nil ?_
        refine qs_seq ?_
        refine wc_block ?_
        refine wc_loop (fun K0 E0 W0 => ∃ (k : Nat), K0 = o.l.length - k ∧ E0 = [(0, .slice (some ⟨b, off, none⟩) l.length cap), (3, intV (i : Int)), (4, intV (k : Int))] ∧ Sat W0 [F] ∧ (k ≤ o.l.length) ∧ (∀ j x, j < k → o.l[j]? = some x → x.t.length ≤ 300)) (L0 := [(0, _), (3, _), (4, _)]) (o.l.length - 0) (.cons rfl (.cons rfl (.cons rfl .nil))) ⟨0, rfl, rfl, hS1, by omega, by omega⟩ ?_
        rintro _ _ w5 ⟨k, rfl, rfl, hS5, hkl, hk3⟩
        have hc1 := ((hL.sat hS5 0 rfl).cells ho)
        refine wc_seq ?_
        refine wc_seq ?_
        refine wc_region ?_
        refine wl_move rfl rfl ?_
        refine wl_move rfl rfl ?_
        refine wl_move rfl rfl ?_
        refine wl_indexAddr i rfl rfl (by first | rfl | omega) (by exact (List.getElem?_eq_some_iff.1 ho).1) es_22 rfl ?_
        refine wl_fieldAddr rfl fo_36_4 rfl ?_
        refine wl_load rfl ag_34 (hc1 4 _ hc4) rfl ?_
        refine wl_lenL Tryz.underlying34 rfl rfl ?_
        refine wl_lss rfl rfl rfl ?_
        refine wl_nil ?_
        refine qs_seq ?_
        refine wc_sub (L' := [(34, _), (0, _), (3, _), (4, _)]) (.cons rfl (.cons rfl (.cons rfl (.cons rfl .nil)))) ?_
        refine wc_condD rfl (fun h6 => ?_) (fun h6 => ?_)
        · skip
          obtain ⟨x, hx⟩ : ∃ x, o.l[k]? = some x := ⟨_, List.getElem?_eq_getElem (by omega)⟩
          have hil2 := hLo.sat hS5 0 rfl
          rw [hlv] at hil2
          obtain ⟨b2, off2, rfl, hc2⟩ := hil2.get hx
          refine wc_skip ?_
          refine qs_seq ?_
          refine wc_seq ?_
          refine wc_block ?_
          refine wc_seq ?_
          refine wc_region ?_
          refine wl_move rfl rfl ?_
          refine wl_move rfl rfl ?_
          refine wl_indexAddr i rfl rfl (by first | rfl | omega) (by exact (List.getElem?_eq_some_iff.1 ho).1) es_22 rfl ?_
          refine wl_fieldAddr rfl fo_36_4 rfl ?_
          refine wl_load rfl ag_34 (hc1 4 _ hc4) rfl ?_
          refine wl_move rfl rfl ?_
          refine wl_indexAddr k rfl rfl (by first | rfl | omega) (by omega) es_34 rfl ?_
          refine wl_fieldAddr rfl fo_49_2 rfl ?_
          refine wl_load rfl ag_9 (hc2 2 _ rfl) rfl ?_
          refine wl_lenS Tryz.underlying9 rfl rfl ?_
          refine wl_gtr rfl rfl rfl ?_
          refine wl_nil ?_
          refine qs_seq ?_
          refine wc_sub (L' := [(47, _), (0, _), (3, _), (4, _)]) (.cons rfl (.cons rfl (.cons rfl (.cons rfl .nil)))) ?_
          refine wc_condD rfl (fun h7 => ?_) (fun h7 => ?_)
          · skip
            refine wc_seq ?_
            refine wc_region ?_
            refine wl_assign rfl rfl ?_
            refine wl_nil ?_
            refine qs_seq ?_
            refine wc_ret ?_
            refine qs_block_ret ?_
            refine qs_then_ret ?_
            refine qs_then_ret ?_
            refine qs_block_ret ?_
            refine qs_block_ret ?_
            refine qs_then_ret ?_
            refine qs_then_ret ?_
            refine qs_block_ret ?_
            refine qs_then_ret ?_
            refine fin1 (.inr rfl) rfl rfl ?_
            exact ⟨_, rfl, by rw [fewT_bad ho (fun q => by have := (okO_iff.1 q).2.2 x (List.mem_of_getElem? hx); omega)], hS5⟩
          · skip
            refine wc_skip ?_
            refine qs_block_normal ?_
            refine qs_seq ?_
            refine wc_region ?_
            refine wl_move rfl rfl ?_
            refine wl_add rfl rfl (by omega) (by omega) rfl ?_
            refine wl_assign rfl rfl ?_
            refine wl_nil ?_
            exact qs_round (L1 := [(0, _), (3, _), (4, intV ((k + 1 : Nat) : Int))]) (.cons rfl (.cons rfl (.cons rfl .nil))) (k1 := o.l.length - (k + 1)) (by omega) ⟨k + 1, rfl, rfl, hS5.pick [0] rfl, by omega, fun j q hj hq => by by_cases e : j = k; (subst e; rw [hx] at hq; cases hq; omega); exact hk3 j q (by omega) hq⟩
        · skip
          refine wc_exit ?_
          refine qs_then_exit ?_
          refine qs_then_exit ?_
          refine qs_block_exit ?_
          refine qs_block_normal ?_
          refine qs_seq ?_
          refine wc_region ?_
          refine wl_move rfl rfl ?_
          refine wl_add rfl rfl (by omega) (by omega) rfl ?_
          refine wl_assign rfl rfl ?_
          refine wl_nil ?_
          exact qs_round (L1 := [(0, _), (3, intV ((i + 1 : Nat) : Int))]) (.cons rfl (.cons rfl .nil)) (k1 := l.length - (i + 1)) (by omega) ⟨i + 1, rfl, rfl, hS5.pick [0] rfl, by omega, fun j q hj hq => by by_cases e : j = i; (subst e; rw [ho] at hq; cases hq; exact okO_iff.2 ⟨by omega, by omega, fun x hx => by obtain ⟨m, hm⟩ := List.mem_iff_getElem?.1 hx; exact hk3 m x (by have := (List.getElem?_eq_some_iff.1 hm).1; omega) hm⟩); exact hok j q (by omega) hq⟩
  · skip
    refine wc_exit ?_
    refine qs_then_exit ?_
    refine qs_then_exit ?_
    refine qs_block_exit ?_
    refine qs_seq ?_
    refine wc_seq ?_
    refine wc_region ?_
    refine wl_move rfl rfl ?_
    refine wl_lenL Tryz.underlying22 rfl rfl ?_
    refine wl_leq rfl rfl rfl ?_
    refine wl_assign rfl rfl ?_
    refine wl_nil ?_
    refine qs_seq ?_
    refine wc_ret ?_
    refine fin1 (.inr rfl) rfl rfl ?_
    exact ⟨_, rfl, by rw [fewT_end hok (by omega)], hS1⟩

theorem truth_sp {w : World} {F : Th} (hS : Sat w [F]) (b : Bool) :
    Calls Tryz.prog 25 #[.bool b] w (Ret fun v w' => v = intV (trN b) ∧ Sat w' [F]) := by
  refine calls_enter Tryz.func25 rfl Tryz.ntmps25 rfl ?_
  refine wc_seq ?_
  refine wc_region ?_
  refine wl_assign rfl rfl ?_
  refine wl_nil ?_
  refine qs_seq ?_
  refine wc_seq ?_
  refine wc_seq ?_
  refine wc_region ?_
  refine wl_move rfl rfl ?_
  refine wl_nil ?_
  refine qs_seq ?_
  refine wc_cond rfl (fun h1 => ?_) (fun h1 => ?_)
  · skip
    refine wc_seq ?_
    refine wc_region ?_
    refine wl_assign rfl rfl ?_
    refine wl_nil ?_
    refine qs_seq ?_
    refine wc_ret ?_
    refine qs_then_ret ?_
    refine fin1 (.inr rfl) rfl rfl ?_
    exact ⟨_, rfl, by unfold trN; simp_all, hS⟩
  · skip
    refine wc_skip ?_
    refine qs_seq ?_
    refine wc_seq ?_
    refine wc_region ?_
    refine wl_assign rfl rfl ?_
    refine wl_nil ?_
    refine qs_seq ?_
    refine wc_ret ?_
    refine fin1 (.inr rfl) rfl rfl ?_
    exact ⟨_, rfl, by unfold trN; simp_all, hS⟩

theorem tcell_sp {w : World} {F : Th} (hS : Sat w [F]) (n : Int) :
    Calls Tryz.prog 15 #[intV n] w (Ret fun v w' => v = strV (cellK n) ∧ Sat w' [F]) := by
  refine calls_enter Tryz.func15 rfl Tryz.ntmps15 rfl ?_
  refine wc_seq ?_
  refine wc_region ?_
  refine wl_assign rfl rfl ?_
  refine wl_nil ?_
  refine qs_seq ?_
  refine wc_seq ?_
  refine wc_seq ?_
  refine wc_region ?_
  refine wl_move rfl rfl ?_
  refine wl_mask 3 rfl rfl rfl rfl (q := 8) rfl rfl ?_
  refine wl_nil ?_
  refine qs_seq ?_
  refine wc_block ?_
  refine wc_seq ?_
  refine wc_region ?_
  refine wl_eql rfl rfl rfl ?_
  refine wl_assign rfl rfl ?_
  refine wl_nil ?_
  refine qs_seq ?_
  refine wc_condD rfl (fun h1 => ?_) (fun h1 => ?_)
  · skip
    refine wc_seq ?_
    refine wc_region ?_
    refine wl_assign rfl rfl ?_
    refine wl_nil ?_
    refine qs_seq ?_
    refine wc_ret ?_
    refine qs_block_ret ?_
    refine qs_then_ret ?_
    refine fin1 (.inr rfl) rfl rfl ?_
    exact ⟨_, rfl, by unfold cellK; rw [if_pos (by assumption)]; first | done | rfl, hS⟩
  · skip
    refine wc_seq ?_
    refine wc_region ?_
    refine wl_eql rfl rfl rfl ?_
    refine wl_assign rfl rfl ?_
    refine wl_nil ?_
    refine qs_seq ?_
    refine wc_condD rfl (fun h2 => ?_) (fun h2 => ?_)
    · skip
      refine wc_seq ?_
      refine wc_region ?_
      refine wl_assign rfl rfl ?_
      refine wl_nil ?_
      refine qs_seq ?_
      refine wc_ret ?_
      refine qs_block_ret ?_
      refine qs_then_ret ?_
      refine fin1 (.inr rfl) rfl rfl ?_
      exact ⟨_, rfl, by unfold cellK; rw [if_neg (by assumption), if_pos (by assumption)]; first | done | rfl, hS⟩
    · skip
      refine wc_seq ?_
      refine wc_region ?_
      refine wl_eql rfl rfl rfl ?_
      refine wl_assign rfl rfl ?_
      refine wl_nil ?_
      refine qs_seq ?_
      refine wc_condD rfl (fun h3 => ?_) (fun h3 => ?_)
      · skip
        refine wc_seq ?_
        refine wc_region ?_
        refine wl_assign rfl rfl ?_
        refine wl_nil ?_
        refine qs_seq ?_
        refine wc_ret ?_
        refine qs_block_ret ?_
        refine qs_then_ret ?_
        refine fin1 (.inr rfl) rfl rfl ?_
        exact ⟨_, rfl, by unfold cellK; rw [if_neg (by assumption), if_neg (by assumption), if_pos (by assumption)]; first | done | rfl, hS⟩
      · skip
        refine wc_seq ?_
        refine wc_region ?_
        refine wl_eql rfl rfl rfl ?_
        refine wl_assign rfl rfl ?_
        refine wl_nil ?_
        refine qs_seq ?_
        refine wc_sub (L' := [(11, _), (4, _), (2, _)]) (.cons rfl (.cons rfl (.cons rfl .nil))) ?_
        refine wc_condD rfl (fun h4 => ?_) (fun h4 => ?_)
        · skip
          refine wc_seq ?_
          refine wc_region ?_
          refine wl_assign rfl rfl ?_
          refine wl_nil ?_
          refine qs_seq ?_
          refine wc_ret ?_
          refine qs_block_ret ?_
          refine qs_then_ret ?_
          refine fin1 (.inr rfl) rfl rfl ?_
          exact ⟨_, rfl, by unfold cellK; rw [if_neg (by assumption), if_neg (by assumption), if_neg (by assumption), if_pos (by assumption)]; first | done | rfl, hS⟩
        · skip
          refine wc_seq ?_
          refine wc_region ?_
          refine wl_eql rfl rfl rfl ?_
          refine wl_assign rfl rfl ?_
          refine wl_nil ?_
          refine qs_seq ?_
          refine wc_condD rfl (fun h5 => ?_) (fun h5 => ?_)
          · skip
            refine wc_seq ?_
            refine wc_region ?_
            refine wl_assign rfl rfl ?_
            refine wl_nil ?_
            refine qs_seq ?_
            refine wc_ret ?_
            refine qs_block_ret ?_
            refine qs_then_ret ?_
            refine fin1 (.inr rfl) rfl rfl ?_
            exact ⟨_, rfl, by unfold cellK; rw [if_neg (by assumption), if_neg (by assumption), if_neg (by assumption), if_neg (by assumption), if_pos (by assumption)]; first | done | rfl, hS⟩
          · skip
            refine wc_skip ?_
            refine qs_block_normal ?_
            refine qs_seq ?_
            refine wc_seq ?_
            refine wc_region ?_
            refine wl_assign rfl rfl ?_
            refine wl_nil ?_
            refine qs_seq ?_
            refine wc_ret ?_
            refine fin1 (.inr rfl) rfl rfl ?_
            exact ⟨_, rfl, by unfold cellK; rw [if_neg (by assumption), if_neg (by assumption), if_neg (by assumption), if_neg (by assumption), if_neg (by assumption)]; first | done | rfl, hS⟩

theorem dueD_ok (W : WS) (now : Int) : 0 ≤ (dueD W now).a ∧ (dueD W now).a ≤ 1099511627776 ∧ 0 ≤ (dueD W now).k ∧ (dueD W now).k < 4 := by
  unfold dueD
  cases hq : dueI W now with
  | none => simp [zeroI]
  | some i =>
    have h1 := item_ok W (next_ok (due_next hq).1).2
    exact ⟨h1.1, h1.2.1, h1.2.2.1, h1.2.2.2.1⟩
set_option maxRecDepth 100000 in
set_option maxHeartbeats 1000000 in
theorem tdo_sp {w : World} {p : Nat} {W : WS} {F : Th} (hS : Sat w [worldT p W, F]) (hG : Ent F WireG) (hB : TB W) (o : OpT) (hs : o.s.length ≤ 300) (hln : o.l.length ≤ 1000) (hn : inI o.n) (hlg : (W.logs kOut).length ≤ 1000000000) (hLo : Ent F (RdL itC o.lv o.l)) :
    Calls Tryz.prog 7 #[ptrV p 0, .agg #[intV o.k, intV o.now, intV o.n, strV o.s, o.lv]] w (Ret fun v w' => v = .tuple #[strV (doV W o).1, intV (doV W o).2.1, intV (doV W o).2.2] ∧ Sat w' [worldT p (doW W o), F]) := by
  refine calls_enter Tryz.func7 rfl Tryz.ntmps7 rfl ?_
  refine wc_seq ?_
  refine wc_region ?_
  refine wl_box hS rfl rfl rfl ?_
  intro b1 w1 hS1
  refine wl_assign rfl rfl ?_
  refine wl_assign rfl rfl ?_
  refine wl_assign rfl rfl ?_
  refine wl_nil ?_
  refine qs_seq ?_
  refine wc_seq ?_
  refine wc_seq ?_
  refine wc_region ?_
  refine wl_fieldAddr rfl fo_36_0 rfl ?_
  refine wl_load rfl ag_3 (by first | assumption | exact hS1.cell 0 rfl rfl) rfl ?_
  refine wl_mask 4 rfl rfl rfl rfl (q := 16) rfl rfl ?_
  refine wl_nil ?_
  refine qs_seq ?_
  refine wc_block ?_
  refine wc_seq ?_
  refine wc_seq ?_
  refine wc_region ?_
  refine wl_eql rfl rfl rfl ?_
  refine wl_assign rfl rfl ?_
  refine wl_nil ?_
  refine qs_seq ?_
  refine wc_sub (L' := [(16, _), (15, _), (6, _), (5, _), (4, _), (3, _), (0, _)]) (.cons rfl (.cons rfl (.cons rfl (.cons rfl (.cons rfl (.cons rfl (.cons rfl .nil))))))) ?_
  refine wc_condD rfl (fun h2 => ?_) (fun h2 => ?_)
  · skip
    refine wc_skip ?_
    refine qs_seq ?_
    refine wc_condKT rfl (decide_eq_true h2) ?_
    refine wc_seq ?_
    refine wc_region ?_
    refine wl_move rfl rfl ?_
    refine wl_makeIface nif_24 rfl rfl ?_
    refine wl_fieldAddr rfl fo_36_1 rfl ?_
    refine wl_load rfl ag_3 (by first | assumption | exact hS1.cell 0 rfl rfl) rfl ?_
    have hC3 := hS1.split [1] [false, true, false] rfl; dsimp only [selF, pickA, nthA, List.cons_append, List.nil_append] at hC3
    refine wl_call cal_23 rfl (due_sp hC3 (hG.starL 1 rfl) hB o.now) rfl ?_
    rintro e w3 ⟨_, rfl, rfl, hS3⟩; refine ⟨_, rfl, ?_⟩
    replace hS3 := hS3.join rfl; dsimp only [List.dropLast, List.cons_append, List.nil_append] at hS3; clear hC3
    clear hS1
    have hdd := dueD_ok W o.now
    refine wl_move rfl rfl ?_
    refine wl_extract rfl rfl rfl ?_
    refine wl_extract rfl rfl rfl ?_
    refine wl_alloc hS3 zr_49 rfl rfl ?_
    intro b4 w4 hS4
    clear hS3
    first | (refine wl_storeA hS4 rfl rfl sz_49 rfl (by first | rfl | (simp [allOne, Value.oneCell']; done) | assumption | exact hone) (i := 0) rfl (by first | decide | exact Nat.le_of_ble_eq_true rfl | (simp; done) | omega) ?_) | (refine wl_storeA hS4 rfl rfl sz_49 rfl (by first | rfl | (simp [allOne, Value.oneCell']; done) | assumption | exact hone) (i := 2) rfl (by first | decide | exact Nat.le_of_ble_eq_true rfl | (simp; done) | omega) ?_)
    intro w5 hS6; dsimp only [List.set] at hS6
    clear hS4
    refine wl_assign rfl rfl ?_
    refine wl_nil ?_
    refine qs_seq ?_
    refine wc_sub (L' := [(8, _), (7, _), (6, _), (5, _), (4, _), (3, _), (0, _)]) (.cons rfl (.cons rfl (.cons rfl (.cons rfl (.cons rfl (.cons rfl (.cons rfl .nil))))))) ?_
    refine wc_seq ?_
    have hS7 := hS6.drew
    refine wc_draw [0, 1, 2, 3, 4, 5, 6, 7, 8, 9, 10, 11, 12] [9] mix (by kernel_rfl) ?_
    refine vc_p rfl rfl rfl (fun _ => (ev_fieldAddr rfl fo_49_2)) ?_
    refine vc_q rfl rfl rfl (ev_load rfl ag_9 (by first | assumption | exact hS7.cell 0 rfl rfl | exact hS7.cell 2 rfl rfl)) ?_
    refine vc_p rfl rfl rfl (fun _ => (ev_fieldAddr rfl fo_49_0)) ?_
    refine vc_q rfl rfl rfl (ev_load rfl ag_3 (by first | assumption | exact hS7.cell 0 rfl rfl | exact hS7.cell 2 rfl rfl)) ?_
    refine vc_p rfl rfl rfl (fun _ => (ev_mul rfl rfl (by omega) (by omega))) ?_
    refine vc_p rfl rfl rfl (fun _ => (ev_fieldAddr rfl fo_49_1)) ?_
    refine vc_q rfl rfl rfl (ev_load rfl ag_3 (by first | assumption | exact hS7.cell 0 rfl rfl | exact hS7.cell 2 rfl rfl)) ?_
    refine vc_p rfl rfl rfl (fun _ => (ev_add rfl rfl (by omega) (by omega))) ?_
    refine vc_p rfl rfl rfl (fun _ => (ev_move rfl)) ?_
    refine vc_s rfl rfl rfl rfl rfl rfl ?_
    have hC8 := hS7.split [] [false, false, false, false] rfl; dsimp only [selF, pickA, nthA, List.cons_append, List.nil_append] at hC8
    refine wl_call cal_25 rfl (truth_sp hC8 (dueI W o.now).isSome) rfl ?_
    rintro e w8 ⟨_, rfl, rfl, hS8⟩; refine ⟨_, rfl, ?_⟩
    replace hS8 := hS8.join rfl; dsimp only [List.dropLast, List.cons_append, List.nil_append] at hS8; clear hC8
    clear hS7
    refine vc_e (.cons (.inl ⟨rfl, (ev_load rfl ag_3 (by first | assumption | exact hS8.cell 0 rfl rfl | exact hS8.cell 2 rfl rfl))⟩) (.cons (.inl ⟨rfl, (ev_load rfl ag_3 (by first | assumption | exact hS8.cell 0 rfl rfl | exact hS8.cell 2 rfl rfl))⟩) (.cons (.inl ⟨rfl, (ev_load rfl ag_9 (by first | assumption | exact hS8.cell 0 rfl rfl | exact hS8.cell 2 rfl rfl))⟩) .nil))) ?_
    refine vc_p rfl rfl rfl (fun _ => (ev_assign rfl)) ?_
    refine vc_p rfl rfl rfl (fun _ => (ev_assign rfl)) ?_
    refine vc_p rfl rfl rfl (fun _ => (ev_assign rfl)) ?_
    refine VC.nil ?_
    refine qs_seq ?_
    refine wc_sub (L' := [(6, _), (5, _), (4, _), (3, _), (0, _)]) (.cons rfl (.cons rfl (.cons rfl (.cons rfl (.cons rfl .nil))))) ?_
    refine wc_ret ?_
    refine qs_block_ret ?_
    refine qs_then_ret ?_
    refine fin3 (.inr rfl) rfl rfl rfl rfl ?_
    exact ⟨_, rfl, by unfold doV; rw [if_pos (by first | assumption | omega)], by unfold doW; rw [if_pos (by first | assumption | omega)]; exact hS8.pick [1, 3] rfl⟩
  · skip
    refine wc_region ?_
    refine wl_eql rfl rfl rfl ?_
    refine wl_assign rfl rfl ?_
    refine wl_nil ?_
    refine qs_seq ?_
    refine wc_condD rfl (fun h9 => ?_) (fun h9 => ?_)
    · skip
      refine wc_seq ?_
      refine wc_region ?_
      refine wl_move rfl rfl ?_
      refine wl_makeIface nif_24 rfl rfl ?_
      refine wl_fieldAddr rfl fo_36_1 rfl ?_
      refine wl_load rfl ag_3 (by first | assumption | exact hS1.cell 0 rfl rfl) rfl ?_
      have hC10 := hS1.split [1] [false, true, false] rfl; dsimp only [selF, pickA, nthA, List.cons_append, List.nil_append] at hC10
      refine wl_call cal_23 rfl (due_sp hC10 (hG.starL 1 rfl) hB o.now) rfl ?_
      rintro e w10 ⟨_, rfl, rfl, hS10⟩; refine ⟨_, rfl, ?_⟩
      replace hS10 := hS10.join rfl; dsimp only [List.dropLast, List.cons_append, List.nil_append] at hS10; clear hC10
      clear hS1
      have hdd := dueD_ok W o.now
      refine wl_move rfl rfl ?_
      refine wl_extract rfl rfl rfl ?_
      refine wl_extract rfl rfl rfl ?_
      refine wl_alloc hS10 zr_49 rfl rfl ?_
      intro b11 w11 hS11
      clear hS10
      first | (refine wl_storeA hS11 rfl rfl sz_49 rfl (by first | rfl | (simp [allOne, Value.oneCell']; done) | assumption | exact hone) (i := 0) rfl (by first | decide | exact Nat.le_of_ble_eq_true rfl | (simp; done) | omega) ?_) | (refine wl_storeA hS11 rfl rfl sz_49 rfl (by first | rfl | (simp [allOne, Value.oneCell']; done) | assumption | exact hone) (i := 2) rfl (by first | decide | exact Nat.le_of_ble_eq_true rfl | (simp; done) | omega) ?_)
      intro w12 hS13; dsimp only [List.set] at hS13
      clear hS11
      refine wl_assign rfl rfl ?_
      refine wl_nil ?_
      refine qs_seq ?_
      refine wc_sub (L' := [(8, _), (7, _), (6, _), (5, _), (4, _), (3, _), (0, _)]) (.cons rfl (.cons rfl (.cons rfl (.cons rfl (.cons rfl (.cons rfl (.cons rfl .nil))))))) ?_
      refine wc_seq ?_
      have hS14 := hS13.drew
      refine wc_draw [0, 1, 2, 3, 4, 5, 6, 7, 8, 9, 10, 11, 12] [9] mix (by kernel_rfl) ?_
      refine vc_p rfl rfl rfl (fun _ => (ev_fieldAddr rfl fo_49_2)) ?_
      refine vc_q rfl rfl rfl (ev_load rfl ag_9 (by first | assumption | exact hS14.cell 0 rfl rfl | exact hS14.cell 2 rfl rfl)) ?_
      refine vc_p rfl rfl rfl (fun _ => (ev_fieldAddr rfl fo_49_0)) ?_
      refine vc_q rfl rfl rfl (ev_load rfl ag_3 (by first | assumption | exact hS14.cell 0 rfl rfl | exact hS14.cell 2 rfl rfl)) ?_
      refine vc_p rfl rfl rfl (fun _ => (ev_mul rfl rfl (by omega) (by omega))) ?_
      refine vc_p rfl rfl rfl (fun _ => (ev_fieldAddr rfl fo_49_1)) ?_
      refine vc_q rfl rfl rfl (ev_load rfl ag_3 (by first | assumption | exact hS14.cell 0 rfl rfl | exact hS14.cell 2 rfl rfl)) ?_
      refine vc_p rfl rfl rfl (fun _ => (ev_add rfl rfl (by omega) (by omega))) ?_
      refine vc_p rfl rfl rfl (fun _ => (ev_move rfl)) ?_
      refine vc_s rfl rfl rfl rfl rfl rfl ?_
      have hC15 := hS14.split [] [false, false, false, false] rfl; dsimp only [selF, pickA, nthA, List.cons_append, List.nil_append] at hC15
      refine wl_call cal_25 rfl (truth_sp hC15 (dueI W o.now).isSome) rfl ?_
      rintro e w15 ⟨_, rfl, rfl, hS15⟩; refine ⟨_, rfl, ?_⟩
      replace hS15 := hS15.join rfl; dsimp only [List.dropLast, List.cons_append, List.nil_append] at hS15; clear hC15
      clear hS14
      refine vc_e (.cons (.inl ⟨rfl, (ev_load rfl ag_3 (by first | assumption | exact hS15.cell 0 rfl rfl | exact hS15.cell 2 rfl rfl))⟩) (.cons (.inl ⟨rfl, (ev_load rfl ag_3 (by first | assumption | exact hS15.cell 0 rfl rfl | exact hS15.cell 2 rfl rfl))⟩) (.cons (.inl ⟨rfl, (ev_load rfl ag_9 (by first | assumption | exact hS15.cell 0 rfl rfl | exact hS15.cell 2 rfl rfl))⟩) .nil))) ?_
      refine vc_p rfl rfl rfl (fun _ => (ev_assign rfl)) ?_
      refine vc_p rfl rfl rfl (fun _ => (ev_assign rfl)) ?_
      refine vc_p rfl rfl rfl (fun _ => (ev_assign rfl)) ?_
      refine VC.nil ?_
      refine qs_seq ?_
      refine wc_sub (L' := [(6, _), (5, _), (4, _), (3, _), (0, _)]) (.cons rfl (.cons rfl (.cons rfl (.cons rfl (.cons rfl .nil))))) ?_
      refine wc_ret ?_
      refine qs_block_ret ?_
      refine qs_then_ret ?_
      refine fin3 (.inr rfl) rfl rfl rfl rfl ?_
      exact ⟨_, rfl, by unfold doV; rw [if_pos (by first | assumption | omega)], by unfold doW; rw [if_pos (by first | assumption | omega)]; exact hS15.pick [1, 3] rfl⟩
    · skip
      refine wc_seq ?_
      refine wc_region ?_
      refine wl_eql rfl rfl rfl ?_
      refine wl_assign rfl rfl ?_
      refine wl_nil ?_
      refine qs_seq ?_
      refine wc_condD rfl (fun h16 => ?_) (fun h16 => ?_)
      · skip
        refine wc_seq ?_
        refine wc_region ?_
        refine wl_move rfl rfl ?_
        refine wl_makeIface nif_24 rfl rfl ?_
        refine wl_fieldAddr rfl fo_36_1 rfl ?_
        refine wl_load rfl ag_3 (by first | assumption | exact hS1.cell 0 rfl rfl) rfl ?_
        have hC17 := hS1.split [1] [false, true, false] rfl; dsimp only [selF, pickA, nthA, List.cons_append, List.nil_append] at hC17
        refine wl_call cal_24 rfl (nextAt_sp hC17 (hG.starL 1 rfl) hB o.now) rfl ?_
        rintro e w17 ⟨_, rfl, rfl, hS17⟩; refine ⟨_, rfl, ?_⟩
        replace hS17 := hS17.join rfl; dsimp only [List.dropLast, List.cons_append, List.nil_append] at hS17; clear hC17
        clear hS1
        refine wl_move rfl rfl ?_
        refine wl_extract rfl rfl rfl ?_
        refine wl_extract rfl rfl rfl ?_
        refine wl_assign rfl rfl ?_
        refine wl_assign rfl rfl ?_
        refine wl_nil ?_
        refine qs_seq ?_
        refine wc_sub (L' := [(10, _), (9, _), (6, _), (5, _), (4, _), (3, _), (0, _)]) (.cons rfl (.cons rfl (.cons rfl (.cons rfl (.cons rfl (.cons rfl (.cons rfl .nil))))))) ?_
        refine wc_seq ?_
        refine wc_region ?_
        refine wl_move rfl rfl ?_
        refine wl_move rfl rfl ?_
        have hC18 := hS17.split [] [false, false, false] rfl; dsimp only [selF, pickA, nthA, List.cons_append, List.nil_append] at hC18
        refine wl_call cal_25 rfl (truth_sp hC18 (nextAtF (itemsW W) o.now).isSome) rfl ?_
        rintro e w18 ⟨_, rfl, rfl, hS18⟩; refine ⟨_, rfl, ?_⟩
        replace hS18 := hS18.join rfl; dsimp only [List.dropLast, List.cons_append, List.nil_append] at hS18; clear hC18
        clear hS17
        refine wl_assign rfl rfl ?_
        refine wl_assign rfl rfl ?_
        refine wl_assign rfl rfl ?_
        refine wl_nil ?_
        refine qs_seq ?_
        refine wc_ret ?_
        refine qs_block_ret ?_
        refine qs_then_ret ?_
        refine fin3 (.inr rfl) rfl rfl rfl rfl ?_
        exact ⟨_, rfl, by unfold doV; rw [if_neg (by omega), if_pos (by first | assumption | omega)], by unfold doW; rw [if_neg (by omega), if_pos (by first | assumption | omega)]; exact hS18.pick [0, 2] rfl⟩
      · skip
        refine wc_seq ?_
        refine wc_region ?_
        refine wl_eql rfl rfl rfl ?_
        refine wl_assign rfl rfl ?_
        refine wl_nil ?_
        refine qs_seq ?_
        refine wc_sub (L' := [(50, _), (15, _), (6, _), (5, _), (4, _), (3, _), (0, _)]) (.cons rfl (.cons rfl (.cons rfl (.cons rfl (.cons rfl (.cons rfl (.cons rfl .nil))))))) ?_
        refine wc_condD rfl (fun h19 => ?_) (fun h19 => ?_)
        · skip
          refine wc_seq ?_
          have hS20 := hS1.drew
          refine wc_draw [0, 1, 2, 3, 6, 7, 8, 9, 4, 5, 10, 11, 12, 13, 14] [4, 5, 10, 11] mix (by kernel_rfl) ?_
          refine vc_p rfl rfl rfl (fun _ => (ev_move rfl)) ?_
          refine vc_p rfl rfl rfl (fun _ => (ev_makeIface nif_24 rfl)) ?_
          refine vc_p rfl rfl rfl (fun _ => (ev_fieldAddr rfl fo_36_1)) ?_
          refine vc_q rfl rfl rfl (ev_load rfl ag_3 (by first | assumption | exact hS20.cell 0 rfl rfl)) ?_
          refine vc_p rfl rfl rfl (fun _ => (ev_move rfl)) ?_
          refine vc_p rfl rfl rfl (fun _ => (ev_makeIface nif_24 rfl)) ?_
          refine vc_p rfl rfl rfl (fun _ => (ev_fieldAddr rfl fo_36_1)) ?_
          refine vc_q rfl rfl rfl (ev_load rfl ag_3 (by first | assumption | exact hS20.cell 0 rfl rfl)) ?_
          refine vc_s rfl rfl rfl rfl rfl rfl ?_
          have hC21 := hS20.split [1] [false, true, false] rfl; dsimp only [selF, pickA, nthA, List.cons_append, List.nil_append] at hC21
          refine wl_call cal_26 rfl (ready_sp hC21 (hG.starL 1 rfl) hB o.now) rfl ?_
          rintro e w21 ⟨_, rfl, rfl, hS21⟩; refine ⟨_, rfl, ?_⟩
          replace hS21 := hS21.join rfl; dsimp only [List.dropLast, List.cons_append, List.nil_append] at hS21; clear hC21
          clear hS20
          refine vc_e (.cons (.inl ⟨rfl, (ev_load rfl ag_3 (by first | assumption | exact hS21.cell 1 rfl rfl))⟩) (.skip (by kernel_rfl) .nil)) ?_
          refine vc_s rfl rfl rfl rfl rfl rfl ?_
          have hC22 := hS21.split [] [false, false, false] rfl; dsimp only [selF, pickA, nthA, List.cons_append, List.nil_append] at hC22
          refine wl_call cal_25 rfl (truth_sp hC22 (readyW W o.now)) rfl ?_
          rintro e w22 ⟨_, rfl, rfl, hS22⟩; refine ⟨_, rfl, ?_⟩
          replace hS22 := hS22.join rfl; dsimp only [List.dropLast, List.cons_append, List.nil_append] at hS22; clear hC22
          clear hS21
          refine vc_e (.cons (.inl ⟨rfl, (ev_load rfl ag_3 (by first | assumption | exact hS22.cell 1 rfl rfl))⟩) (.skip (by kernel_rfl) .nil)) ?_
          refine vc_s rfl rfl rfl rfl rfl rfl ?_
          have hC23 := hS22.split [0] [true, false, false] rfl; dsimp only [selF, pickA, nthA, List.cons_append, List.nil_append] at hC23
          refine wl_call cal_27 rfl (controlW_sp hC23 (hG.starL 1 rfl) hB o.now) rfl ?_
          rintro e w23 ⟨_, rfl, rfl, hS23⟩; refine ⟨_, rfl, ?_⟩
          replace hS23 := hS23.join rfl; dsimp only [List.dropLast, List.cons_append, List.nil_append] at hS23; clear hC23
          clear hS22
          refine vc_e (.skip (by kernel_rfl) (.skip (by kernel_rfl) .nil)) ?_
          refine vc_s rfl rfl rfl rfl rfl rfl ?_
          have hC24 := hS23.split [] [false, false, false] rfl; dsimp only [selF, pickA, nthA, List.cons_append, List.nil_append] at hC24
          refine wl_call cal_25 rfl (truth_sp hC24 (ctlW W o.now)) rfl ?_
          rintro e w24 ⟨_, rfl, rfl, hS24⟩; refine ⟨_, rfl, ?_⟩
          replace hS24 := hS24.join rfl; dsimp only [List.dropLast, List.cons_append, List.nil_append] at hS24; clear hC24
          clear hS23
          refine vc_e (.skip (by kernel_rfl) (.skip (by kernel_rfl) .nil)) ?_
          refine vc_p rfl rfl rfl (fun _ => (ev_assign rfl)) ?_
          refine vc_p rfl rfl rfl (fun _ => (ev_assign rfl)) ?_
          refine vc_p rfl rfl rfl (fun _ => (ev_assign rfl)) ?_
          refine VC.nil ?_
          refine qs_seq ?_
          refine wc_sub (L' := [(6, _), (5, _), (4, _), (3, _), (0, _)]) (.cons rfl (.cons rfl (.cons rfl (.cons rfl (.cons rfl .nil))))) ?_
          refine wc_ret ?_
          refine qs_block_ret ?_
          refine qs_then_ret ?_
          refine fin3 (.inr rfl) rfl rfl rfl rfl ?_
          exact ⟨_, rfl, by unfold doV; rw [if_neg (by omega), if_neg (by assumption), if_pos (by first | assumption | omega)], by unfold doW; rw [if_neg (by omega), if_neg (by assumption), if_pos (by first | assumption | omega)]; exact hS24.pick [0, 2] rfl⟩
        · skip
          refine wc_seq ?_
          refine wc_region ?_
          refine wl_eql rfl rfl rfl ?_
          refine wl_assign rfl rfl ?_
          refine wl_nil ?_
          refine qs_seq ?_
          refine wc_condD rfl (fun h25 => ?_) (fun h25 => ?_)
          · skip
            refine wc_seq ?_
            refine wc_region ?_
            refine wl_move rfl rfl ?_
            refine wl_makeIface nif_24 rfl rfl ?_
            refine wl_fieldAddr rfl fo_36_4 rfl ?_
            refine wl_load rfl ag_34 (by first | assumption | exact hS1.cell 0 rfl rfl) rfl ?_
            have hC26 := hS1.split [1] [false, true, false] rfl; dsimp only [selF, pickA, nthA, List.cons_append, List.nil_append] at hC26
            refine wl_call cal_21 rfl (fill_sp hC26 (hG.starL 1 rfl) (hLo.starL 1 rfl) hln) rfl ?_
            rintro e w26 ⟨_, rfl, rfl, hS26⟩; refine ⟨_, rfl, ?_⟩
            replace hS26 := hS26.join rfl; dsimp only [List.dropLast, List.cons_append, List.nil_append] at hS26; clear hC26
            clear hS1
            refine wl_assign rfl rfl ?_
            refine wl_assign rfl rfl ?_
            refine wl_assign rfl rfl ?_
            refine wl_nil ?_
            refine qs_seq ?_
            refine wc_sub (L' := [(6, _), (5, _), (4, _), (3, _), (0, _)]) (.cons rfl (.cons rfl (.cons rfl (.cons rfl (.cons rfl .nil))))) ?_
            refine wc_ret ?_
            refine qs_block_ret ?_
            refine qs_then_ret ?_
            refine fin3 (.inr rfl) rfl rfl rfl rfl ?_
            exact ⟨_, rfl, by unfold doV; rw [if_neg (by omega), if_neg (by assumption), if_neg (by assumption), if_pos (by first | assumption | omega)], by unfold doW; rw [if_neg (by omega), if_neg (by assumption), if_neg (by assumption), if_pos (by first | assumption | omega)]; exact hS26.pick [0, 2] rfl⟩
          · skip
            refine wc_seq ?_
            refine wc_region ?_
            refine wl_eql rfl rfl rfl ?_
            refine wl_assign rfl rfl ?_
            refine wl_nil ?_
            refine qs_seq ?_
            refine wc_sub (L' := [(71, _), (15, _), (6, _), (5, _), (4, _), (3, _), (0, _)]) (.cons rfl (.cons rfl (.cons rfl (.cons rfl (.cons rfl (.cons rfl (.cons rfl .nil))))))) ?_
            refine wc_condD rfl (fun h27 => ?_) (fun h27 => ?_)
            · skip
              refine wc_seq ?_
              refine wc_region ?_
              refine wl_move rfl rfl ?_
              refine wl_makeIface nif_24 rfl rfl ?_
              refine wl_fieldAddr rfl fo_36_2 rfl ?_
              refine wl_load rfl ag_3 (by first | assumption | exact hS1.cell 0 rfl rfl) rfl ?_
              have hC28 := hS1.split [1] [false, true, false] rfl; dsimp only [selF, pickA, nthA, List.cons_append, List.nil_append] at hC28
              refine wl_call cal_28 rfl (setFg_sp hC28 (hG.starL 1 rfl) o.n hn) rfl ?_
              rintro e w28 ⟨_, rfl, rfl, hS28⟩; refine ⟨_, rfl, ?_⟩
              replace hS28 := hS28.join rfl; dsimp only [List.dropLast, List.cons_append, List.nil_append] at hS28; clear hC28
              clear hS1
              refine wl_nil ?_
              refine qs_seq ?_
              refine wc_sub (L' := [(6, _), (5, _), (4, _), (3, _), (0, _)]) (.cons rfl (.cons rfl (.cons rfl (.cons rfl (.cons rfl .nil))))) ?_
              refine wc_seq ?_
              refine wc_region ?_
              refine wl_assign rfl rfl ?_
              refine wl_assign rfl rfl ?_
              refine wl_assign rfl rfl ?_
              refine wl_nil ?_
              refine qs_seq ?_
              refine wc_ret ?_
              refine qs_block_ret ?_
              refine qs_then_ret ?_
              refine fin3 (.inr rfl) rfl rfl rfl rfl ?_
              exact ⟨_, rfl, by unfold doV; rw [if_neg (by omega), if_neg (by assumption), if_neg (by assumption), if_neg (by assumption), if_pos (by first | assumption | omega)], by unfold doW; rw [if_neg (by omega), if_neg (by assumption), if_neg (by assumption), if_neg (by assumption), if_pos (by first | assumption | omega)]; exact hS28.pick [0, 2] rfl⟩
            · skip
              refine wc_seq ?_
              refine wc_region ?_
              refine wl_eql rfl rfl rfl ?_
              refine wl_assign rfl rfl ?_
              refine wl_nil ?_
              refine qs_seq ?_
              refine wc_condD rfl (fun h29 => ?_) (fun h29 => ?_)
              · skip
                refine wc_seq ?_
                refine wc_region ?_
                refine wl_move rfl rfl ?_
                refine wl_makeIface nif_24 rfl rfl ?_
                refine wl_fieldAddr rfl fo_36_3 rfl ?_
                refine wl_load rfl ag_9 (by first | assumption | exact hS1.cell 0 rfl rfl) rfl ?_
                have hC30 := hS1.split [1] [false, true, false] rfl; dsimp only [selF, pickA, nthA, List.cons_append, List.nil_append] at hC30
                refine wl_call cal_29 rfl (say_sp hC30 o.s (by omega)) rfl ?_
                rintro e w30 ⟨_, rfl, rfl, hS30⟩; refine ⟨_, rfl, ?_⟩
                replace hS30 := hS30.join rfl; dsimp only [List.dropLast, List.cons_append, List.nil_append] at hS30; clear hC30
                clear hS1
                refine wl_nil ?_
                refine qs_seq ?_
                refine wc_sub (L' := [(6, _), (5, _), (4, _), (3, _), (0, _)]) (.cons rfl (.cons rfl (.cons rfl (.cons rfl (.cons rfl .nil))))) ?_
                refine wc_seq ?_
                refine wc_region ?_
                refine wl_assign rfl rfl ?_
                refine wl_assign rfl rfl ?_
                refine wl_assign rfl rfl ?_
                refine wl_nil ?_
                refine qs_seq ?_
                refine wc_ret ?_
                refine qs_block_ret ?_
                refine qs_then_ret ?_
                refine fin3 (.inr rfl) rfl rfl rfl rfl ?_
                exact ⟨_, rfl, by unfold doV; rw [if_neg (by omega), if_neg (by assumption), if_neg (by assumption), if_neg (by assumption), if_neg (by assumption), if_pos (by first | assumption | omega)], by unfold doW; rw [if_neg (by omega), if_neg (by assumption), if_neg (by assumption), if_neg (by assumption), if_neg (by assumption), if_pos (by first | assumption | omega)]; exact hS30.pick [0, 2] rfl⟩
              · skip
                refine wc_seq ?_
                refine wc_region ?_
                refine wl_eql rfl rfl rfl ?_
                refine wl_assign rfl rfl ?_
                refine wl_nil ?_
                refine qs_seq ?_
                refine wc_sub (L' := [(85, _), (6, _), (5, _), (4, _), (3, _), (0, _)]) (.cons rfl (.cons rfl (.cons rfl (.cons rfl (.cons rfl (.cons rfl .nil)))))) ?_
                refine wc_condD rfl (fun h31 => ?_) (fun h31 => ?_)
                · skip
                  refine wc_seq ?_
                  have hS32 := hS1.drew
                  refine wc_draw [0, 1, 2, 4, 5, 3, 6] [3, 6] mix (by kernel_rfl) ?_
                  refine vc_p rfl rfl rfl (fun _ => (ev_move rfl)) ?_
                  refine vc_p rfl rfl rfl (fun _ => (ev_fieldAddr rfl fo_36_2)) ?_
                  refine vc_q rfl rfl rfl (ev_load rfl ag_3 (by first | assumption | exact hS32.cell 0 rfl rfl)) ?_
                  refine vc_p rfl rfl rfl (fun _ => (ev_fieldAddr rfl fo_36_3)) ?_
                  refine vc_q rfl rfl rfl (ev_load rfl ag_9 (by first | assumption | exact hS32.cell 0 rfl rfl)) ?_
                  refine vc_s rfl rfl rfl rfl rfl rfl ?_
                  have hC33 := hS32.split [] [false, false, false] rfl; dsimp only [selF, pickA, nthA, List.cons_append, List.nil_append] at hC33
                  refine wl_call cal_15 rfl (tcell_sp hC33 o.n) rfl ?_
                  rintro e w33 ⟨_, rfl, rfl, hS33⟩; refine ⟨_, rfl, ?_⟩
                  replace hS33 := hS33.join rfl; dsimp only [List.dropLast, List.cons_append, List.nil_append] at hS33; clear hC33
                  clear hS32
                  refine vc_e (.cons (.inl ⟨rfl, (ev_load rfl ag_9 (by first | assumption | exact hS33.cell 0 rfl rfl))⟩) (.skip (by kernel_rfl) .nil)) ?_
                  refine vc_s rfl rfl rfl rfl rfl rfl ?_
                  have hC34 := hS33.split [1] [false, true, false] rfl; dsimp only [selF, pickA, nthA, List.cons_append, List.nil_append] at hC34
                  refine wl_call cal_30 rfl (put_sp hC34 (cellK o.n) o.s (by have := cellK_len o.n; omega) (by omega)) rfl ?_
                  rintro e w34 ⟨_, rfl, rfl, hS34⟩; refine ⟨_, rfl, ?_⟩
                  replace hS34 := hS34.join rfl; dsimp only [List.dropLast, List.cons_append, List.nil_append] at hS34; clear hC34
                  clear hS33
                  refine vc_e (.skip (by kernel_rfl) (.skip (by kernel_rfl) .nil)) ?_
                  refine VC.nil ?_
                  refine qs_seq ?_
                  refine wc_sub (L' := [(6, _), (5, _), (4, _), (3, _), (0, _)]) (.cons rfl (.cons rfl (.cons rfl (.cons rfl (.cons rfl .nil))))) ?_
                  refine wc_seq ?_
                  refine wc_region ?_
                  refine wl_assign rfl rfl ?_
                  refine wl_assign rfl rfl ?_
                  refine wl_assign rfl rfl ?_
                  refine wl_nil ?_
                  refine qs_seq ?_
                  refine wc_ret ?_
                  refine qs_block_ret ?_
                  refine qs_then_ret ?_
                  refine fin3 (.inr rfl) rfl rfl rfl rfl ?_
                  exact ⟨_, rfl, by unfold doV; rw [if_neg (by omega), if_neg (by assumption), if_neg (by assumption), if_neg (by assumption), if_neg (by assumption), if_neg (by assumption), if_pos (by first | assumption | omega)], by unfold doW; rw [if_neg (by omega), if_neg (by assumption), if_neg (by assumption), if_neg (by assumption), if_neg (by assumption), if_neg (by assumption), if_pos (by first | assumption | omega)]; exact hS34.pick [0, 2] rfl⟩
                · skip
                  refine wc_skip ?_
                  refine qs_block_normal ?_
                  refine qs_seq ?_
                  refine wc_seq ?_
                  refine wc_region ?_
                  refine wl_move rfl rfl ?_
                  refine wl_makeIface nif_24 rfl rfl ?_
                  refine wl_fieldAddr rfl fo_36_1 rfl ?_
                  refine wl_load rfl ag_3 (by first | assumption | exact hS1.cell 0 rfl rfl) rfl ?_
                  refine wl_fieldAddr rfl fo_36_2 rfl ?_
                  refine wl_load rfl ag_3 (by first | assumption | exact hS1.cell 0 rfl rfl) rfl ?_
                  have hC35 := hS1.split [1] [false, true, false] rfl; dsimp only [selF, pickA, nthA, List.cons_append, List.nil_append] at hC35
                  refine wl_call cal_22 rfl (readT_sp hC35 (hG.starL 1 rfl) hB o.now o.n) rfl ?_
                  rintro e w35 ⟨_, rfl, rfl, hS35⟩; refine ⟨_, rfl, ?_⟩
                  replace hS35 := hS35.join rfl; dsimp only [List.dropLast, List.cons_append, List.nil_append] at hS35; clear hC35
                  clear hS1
                  refine wl_move rfl rfl ?_
                  refine wl_extract rfl rfl rfl ?_
                  refine wl_extract rfl rfl rfl ?_
                  refine wl_assign rfl rfl ?_
                  refine wl_assign rfl rfl ?_
                  refine wl_nil ?_
                  refine qs_seq ?_
                  refine wc_sub (L' := [(12, _), (11, _), (6, _), (5, _), (4, _)]) (.cons rfl (.cons rfl (.cons rfl (.cons rfl (.cons rfl .nil))))) ?_
                  refine wc_seq ?_
                  refine wc_region ?_
                  refine wl_move rfl rfl ?_
                  refine wl_move rfl rfl ?_
                  refine wl_assign rfl rfl ?_
                  refine wl_assign rfl rfl ?_
                  refine wl_assign rfl rfl ?_
                  refine wl_nil ?_
                  refine qs_seq ?_
                  refine wc_ret ?_
                  refine fin3 (.inr rfl) rfl rfl rfl rfl ?_
                  exact ⟨_, rfl, by unfold doV; rw [if_neg (by omega), if_neg (by assumption), if_neg (by assumption), if_neg (by assumption), if_neg (by assumption), if_neg (by assumption), if_neg (by assumption)], by unfold doW; rw [if_neg (by omega), if_neg (by assumption), if_neg (by assumption), if_neg (by assumption), if_neg (by assumption), if_neg (by assumption), if_neg (by assumption)]; exact hS35.pick [0, 2] rfl⟩

end Go.Proofs.YtdkfppcafpjomaaGreatDoor
