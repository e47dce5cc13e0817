/- journal: Same, With -/
import Derived.Test.YtfmkodmmbgibgaaGreatDoorJw5
import Derived.ChangeKeysEq
import Derived.Laws.StructEq
namespace Go.Proofs.YtfmkodmmbgibgaaGreatDoor
open Go.RowKit M
set_option linter.unusedVariables false
section
variable {P : Program} {n : Nat} {ops : Array Oper} {Q : Exit → Act → World → Prop} {rest : List Oper} {L : Env} {w : World} {d : Nat} {ty : TypeId} {pos : String} {aft : Array Edge} {As : List Th}
theorem ev_neqAgg {t t2 : Nat} {x y : Operand} {xs ys : Array Value} {b : Bool} (h : ∀ w, (Op.equal t (.agg xs) (.agg ys)).run P w = .ok b w) (hg : P.eqGuardType P.depth t = false) (hx : M.look L x = some (.agg xs)) (hy : M.look L y = some (.agg ys)) : Ev P L w ⟨some d, .binOp .neq t x y t2, ty, pos, aft, none⟩ (.bool (!b)) := fun ρ hρ => by
  have h := h w
  simp [execOp, hρ _ _ hx, hρ _ _ hy, eqGuard, binOp, program, Sem.run, hg] at h ⊢
  rw [h]
  rfl
end
theorem eqBlk (x y : Blk) (w : World) : (Op.equal 34 (.agg #[intV x.n, strV x.d]) (.agg #[intV y.n, strV y.d])).run Tryz.prog w = .ok (decide (x.n = y.n ∧ x.d = y.d)) w := by
  have u3 := Tryz.underlying3
  have a3 : aggB Tryz.prog 3 = some false := by kernel_rfl
  have u9 := Tryz.underlying9
  have a9 : aggB Tryz.prog 9 = some false := by kernel_rfl
  have hS : Tryz.prog.underlying 34 = some (.struct (Tryz.prog.fieldsOf 34)) := by kernel_rfl
  have hp : Tryz.prog.stoodInHeld 34 = false := by kernel_rfl
  unfold Op.equal Op.maxDepth
  generalize hN : (10000 : Nat) = N
  obtain ⟨m, rfl⟩ : ∃ m, N = m + 1 + 1 := ⟨9998, by omega⟩
  rw [run_equalIn_struct w (m + 1) 34 _ _ hS hp]
  have q0 := fun w => run_part1 (P := Tryz.prog) a3 #[intV x.n, strV x.d] 0 _ rfl w
  have q1 := fun w => run_part1 (P := Tryz.prog) a9 #[intV x.n, strV x.d] 1 _ rfl w
  have r0 := fun w => run_part1 (P := Tryz.prog) a3 #[intV y.n, strV y.d] 0 _ rfl w
  have r1 := fun w => run_part1 (P := Tryz.prog) a9 #[intV y.n, strV y.d] 1 _ rfl w
  simp only [Program.fieldsOf, Tryz.underlying34, Op.eqFields, Sem.run_bind, q0, q1, r0, r1, Result.andThen_ok, run_equalIn_string _ _ _ _ _ u9, run_equalIn_int _ _ _ _ _ _ _ u3, Sem.run_ite, Sem.run_pure]
  by_cases h0 : x.n = y.n <;> by_cases h1 : x.d = y.d <;> simp [h0, h1, run_equalIn_string _ _ _ _ _ u9, run_equalIn_int _ _ _ _ _ _ _ u3]
theorem same_endB {l1 l2 : List Blk} {i : Nat} (h : ∀ j, j < i → l1[j]? = l2[j]?) (h1 : i = l1.length) (h2 : l1.length = l2.length) : l1 = l2 := by
  apply List.ext_getElem?
  intro j
  by_cases hj : j < i
  · exact h j hj
  · rw [List.getElem?_eq_none (by omega), List.getElem?_eq_none (by omega)]
theorem blk_ext {y z : Blk} (h : y.n = z.n ∧ y.d = z.d) : y = z := by cases y; cases z; simp_all
set_option maxRecDepth 100000 in
theorem bsame_sp {w : World} {F : Th} (hS : Sat w [F]) {v1 v2 : Value} {l1 l2 : List Blk} (hE1 : Ent F (RdL jbC v1 l1)) (hE2 : Ent F (RdL jbC v2 l2)) :
    Calls Tryz.prog 12 #[v1, v2] w (Ret fun v w' => v = .bool (decide (l1 = l2)) ∧ Sat w' [F]) := by
  obtain ⟨ao1, cap1, rfl, hm1⟩ := (hE1.sat hS 0 rfl).shape
  obtain ⟨ao2, cap2, rfl, hm2⟩ := (hE2.sat hS 0 rfl).shape
  refine calls_enter Tryz.func12 rfl Tryz.ntmps12 rfl ?_
  refine wc_seq ?_
  refine wc_region ?_
  refine wl_assign rfl rfl ?_
  refine wl_nil ?_
  refine qs_seq ?_
  refine wc_seq ?_
  refine wc_seq ?_
  refine wc_region ?_
  refine wl_move rfl rfl ?_
  refine wl_lenL Tryz.underlying32 rfl rfl ?_
  refine wl_move rfl rfl ?_
  refine wl_lenL Tryz.underlying32 rfl rfl ?_
  refine wl_neq rfl rfl rfl ?_
  refine wl_nil ?_
  refine qs_seq ?_
  refine wc_condD rfl (fun h1 => ?_) (fun h1 => ?_)
  · skip
    refine wc_seq ?_
    refine wc_region ?_
    refine wl_assign rfl rfl ?_
    refine wl_nil ?_
    refine qs_seq ?_
    refine wc_ret ?_
    refine qs_then_ret ?_
    refine fin1 (.inr rfl) rfl rfl ?_
    exact ⟨_, rfl, by rw [decide_eq_false (by rintro rfl; omega)], hS⟩
  refine wc_skip ?_
  refine qs_seq ?_
  refine wc_seq ?_
  refine wc_seq ?_
  refine wc_region ?_
  refine wl_assign rfl rfl ?_
  refine wl_nil ?_
  refine qs_seq ?_
  refine wc_block ?_
  refine wc_loop (fun K0 E0 W0 => ∃ (i : Nat), K0 = l1.length - i ∧ E0 = [(0, .slice ao1 l1.length cap1), (1, .slice ao2 l2.length cap2), (5, intV (i : Int))] ∧ Sat W0 [F] ∧ (i ≤ l1.length) ∧ (∀ j, j < i → l1[j]? = l2[j]?)) (L0 := [(0, _), (1, _), (5, _)]) (l1.length - 0) (.cons rfl (.cons rfl (.cons rfl .nil))) ⟨0, rfl, rfl, hS, by omega, by omega⟩ ?_
  rintro _ _ w2 ⟨i, rfl, rfl, hS2, hi, hok⟩
  refine wc_seq ?_
  refine wc_seq ?_
  refine wc_region ?_
  refine wl_move rfl rfl ?_
  refine wl_move rfl rfl ?_
  refine wl_lenL Tryz.underlying32 rfl rfl ?_
  refine wl_lss rfl rfl rfl ?_
  refine wl_nil ?_
  refine qs_seq ?_
  refine wc_condD rfl (fun h3 => ?_) (fun h3 => ?_)
  · skip
    obtain ⟨y, hy⟩ : ∃ y, l1[i]? = some y := ⟨_, List.getElem?_eq_getElem (by omega)⟩
    obtain ⟨z, hz⟩ : ∃ z, l2[i]? = some z := ⟨_, List.getElem?_eq_getElem (by omega)⟩
    obtain ⟨b1, off1, rfl, hc1⟩ := (hE1.sat hS2 0 rfl).get hy
    obtain ⟨b2, off2, rfl, hc2⟩ := (hE2.sat hS2 0 rfl).get hz
    refine wc_skip ?_
    refine qs_seq ?_
    refine wc_seq ?_
    refine wc_block ?_
    refine wc_seq ?_
    have hS4 := hS2.drew
    refine wc_draw [0, 1, 2, 3, 4, 5, 6, 7, 8] [] mix (by kernel_rfl) ?_
    refine vc_p rfl rfl rfl (fun _ => (ev_move rfl)) ?_
    refine vc_p rfl rfl rfl (fun _ => (ev_move rfl)) ?_
    refine vc_p rfl rfl rfl (fun _ => (ev_indexAddr i rfl rfl (by first | rfl | omega) (by exact (List.getElem?_eq_some_iff.1 hy).1) es_32)) ?_
    refine vc_q rfl rfl rfl (ev_loadAt rfl ag_34 sz_34 (vs := bV y) hc1) ?_
    refine vc_p rfl rfl rfl (fun _ => (ev_move rfl)) ?_
    refine vc_p rfl rfl rfl (fun _ => (ev_move rfl)) ?_
    refine vc_p rfl rfl rfl (fun _ => (ev_indexAddr i rfl rfl (by first | rfl | omega) (by exact (List.getElem?_eq_some_iff.1 hz).1) es_32)) ?_
    refine vc_q rfl rfl rfl (ev_loadAt rfl ag_34 sz_34 (vs := bV z) hc2) ?_
    refine vc_p rfl rfl rfl (fun _ => (ev_neqAgg (eqBlk y z) (by kernel_rfl) rfl rfl)) ?_
    refine VC.nil ?_
    refine qs_seq ?_
    refine wc_sub (L' := [(25, _), (0, _), (1, _), (5, _)]) (.cons rfl (.cons rfl (.cons rfl (.cons rfl .nil)))) ?_
    refine wc_cond rfl (fun h5 => ?_) (fun h5 => ?_)
    · skip
      have hne : y ≠ z := by rintro rfl; simp at h5
      refine wc_seq ?_
      refine wc_region ?_
      refine wl_assign rfl rfl ?_
      refine wl_nil ?_
      refine qs_seq ?_
      refine wc_ret ?_
      refine qs_block_ret ?_
      refine qs_then_ret ?_
      refine qs_then_ret ?_
      refine qs_block_ret ?_
      refine qs_then_ret ?_
      refine fin1 (.inr rfl) rfl rfl ?_
      exact ⟨_, rfl, by rw [decide_eq_false (by rintro rfl; rw [hy] at hz; cases hz; exact hne rfl)], hS4⟩
    have heq : y = z := blk_ext (by simpa using h5)
    refine wc_skip ?_
    refine qs_block_normal ?_
    refine qs_seq ?_
    refine wc_region ?_
    refine wl_move rfl rfl ?_
    refine wl_add rfl rfl (by first | omega | (simp; omega)) (by first | omega | (simp; omega)) rfl ?_
    refine wl_assign rfl rfl ?_
    refine wl_nil ?_
    exact qs_round (L1 := [(0, _), (1, _), (5, intV ((i + 1 : Nat) : Int))]) (.cons rfl (.cons rfl (.cons rfl .nil))) (k1 := l1.length - (i + 1)) (by omega) ⟨i + 1, rfl, rfl, hS4, by omega, fun j hj => by by_cases e : j = i; (subst e; rw [hy, hz, heq]); exact hok j (by omega)⟩
  refine wc_exit ?_
  refine qs_then_exit ?_
  refine qs_then_exit ?_
  refine qs_block_exit ?_
  refine qs_seq ?_
  refine wc_seq ?_
  refine wc_region ?_
  refine wl_assign rfl rfl ?_
  refine wl_nil ?_
  refine qs_seq ?_
  refine wc_ret ?_
  refine fin1 (.inr rfl) rfl rfl ?_
  exact ⟨_, rfl, by rw [decide_eq_true (same_endB hok (by omega) (by omega))], hS2⟩
theorem insK_a {o : List Blk} {x : Blk} {k j : Nat} (h : x.d = []) : [] ++ (o.take k).drop 0 ++ o.drop j = insK o x k j := by unfold insK; rw [if_pos h]; simp
theorem insK_b {o : List Blk} {x : Blk} {k j : Nat} (h : ¬ x.d = []) : [] ++ (o.take k).drop 0 ++ [x] ++ o.drop j = insK o x k j := by unfold insK; rw [if_neg h]; simp
theorem listB_len (B : Int → Bytes) : (listB B).length ≤ 2048 := by rw [← listN_all]; exact listN_len B 2048
set_option maxRecDepth 100000 in
set_option maxHeartbeats 20000000 in
theorem with_sp {w : World} {F : Th} (hS : Sat w [F]) {lv cv : Value} {B : Int → Bytes} {ch : List Blk} (hA : Ent F (RdL jbC lv (listB B))) (hC : Ent F (RdL jbC cv ch)) (hr : ∀ x ∈ ch, 0 ≤ x.n ∧ x.n < 2048) :
    Calls Tryz.prog 15 #[lv, cv] w (Ret fun v w' => Sat w' [rowT jbC v (listB (withB B ch)), F]) := by
  obtain ⟨la, lc, rfl, hlm⟩ := (hA.sat hS 0 rfl).shape
  obtain ⟨ca, cc, rfl, hcm⟩ := (hC.sat hS 0 rfl).shape
  refine calls_enter Tryz.func15 rfl Tryz.ntmps15 rfl ?_
  have hbl := listB_len B
  refine wc_seq ?_
  refine wc_region ?_
  refine wl_assign rfl rfl ?_
  refine wl_nil ?_
  refine qs_seq ?_
  refine wc_seq ?_
  refine wc_region ?_
  refine wl_rowBuild jbC [] hS rfl Tryz.underlying32 ifz_34 rfl rfl rfl rfl (by first | rfl | simp [RowC.cells, fillL, splice]) rfl ?_
  intro b1 w1 hS1
  refine wl_move rfl rfl ?_
  refine wl_rowApp jbC 0 hS1 rfl rfl rfl (hA.sat hS1 1 rfl) Tryz.underlying32 Tryz.underlying32 (by intro k hk; cases hk) ifo_34 rfl (by simp only [List.length_append, List.length_cons, List.length_nil, List.length_take, List.length_drop]; omega) rfl (by simp only [List.length_append, List.length_cons, List.length_nil, List.length_take, List.length_drop]; omega) ?_
  intro v2 w2 hS2; dsimp only [List.set] at hS2
  clear hS1
  have h1v2 : v2.oneCell' = true := hS2.own_one 0 rfl
  refine wl_assign rfl rfl ?_
  refine wl_nil ?_
  refine qs_seq ?_
  refine wc_seq ?_
  refine wc_seq ?_
  refine wc_region ?_
  refine wl_assign rfl rfl ?_
  refine wl_nil ?_
  refine qs_seq ?_
  refine wc_block ?_
  rw [List.nil_append] at hS2
  obtain ⟨oa0, oc0, rfl, hoc0, _⟩ := hS2.own_shape 0 rfl
  refine wc_loop (fun K0 E0 W0 => ∃ (i : Nat) (oa : Option Addr) (oc : Nat) (o : List Blk), K0 = ch.length - i ∧ E0 = [(1, .slice ca ch.length cc), (5, .slice oa o.length oc), (6, intV (i : Int))] ∧ Sat W0 [rowT jbC (.slice oa o.length oc) o, F] ∧ (i ≤ ch.length) ∧ (o = listB (withB B (ch.take i))) ∧ (o.length ≤ oc)) (L0 := [(1, _), (5, _), (6, _)]) (ch.length - 0) (.cons rfl (.cons rfl (.cons rfl .nil))) ⟨0, oa0, oc0, _, rfl, rfl, hS2.pick [0, 1] rfl, by omega, by rw [List.take_zero, withB_nil], hoc0⟩ ?_
  rintro _ _ w3 ⟨i, oa, oc, o, rfl, rfl, hS3, hi, ho, hoc⟩
  have hol : o.length ≤ 2048 := by rw [ho]; exact listB_len _
  refine wc_seq ?_
  refine wc_seq ?_
  refine wc_region ?_
  refine wl_move rfl rfl ?_
  refine wl_move rfl rfl ?_
  first | refine wl_lenL Tryz.underlying32 rfl rfl ?_ | refine wl_lenO 0 hS3 Tryz.underlying32 rfl rfl rfl ?_
  refine wl_lss rfl rfl rfl ?_
  refine wl_nil ?_
  refine qs_seq ?_
  refine wc_condD rfl (fun h4 => ?_) (fun h4 => ?_)
  · skip
    obtain ⟨x, hx⟩ : ∃ x, ch[i]? = some x := ⟨_, List.getElem?_eq_getElem (by omega)⟩
    obtain ⟨cb, co, rfl, _⟩ := (hC.sat hS3 1 rfl).get hx
    refine wc_skip ?_
    refine qs_seq ?_
    refine wc_seq ?_
    refine wc_block ?_
    refine wc_seq ?_
    refine wc_region ?_
    refine wl_assign rfl rfl ?_
    refine wl_nil ?_
    refine qs_seq ?_
    refine wc_mid (fun E0 W0 => ∃ (k : Nat), E0 = [(1, .slice (some ⟨cb, co, none⟩) ch.length cc), (5, .slice oa o.length oc), (6, intV (i : Int)), (7, intV (k : Int))] ∧ Sat W0 [rowT jbC (.slice oa o.length oc) o, F] ∧ (k ≤ o.length) ∧ (∀ m b, m < k → o[m]? = some b → b.n < x.n) ∧ (∀ b, o[k]? = some b → x.n ≤ b.n)) ?_ ?_
    · skip
      refine wc_block ?_
      refine wc_loop (fun K0 E0 W0 => ∃ (k : Nat), K0 = o.length - k ∧ E0 = [(1, .slice (some ⟨cb, co, none⟩) ch.length cc), (5, .slice oa o.length oc), (6, intV (i : Int)), (7, intV (k : Int))] ∧ Sat W0 [rowT jbC (.slice oa o.length oc) o, F] ∧ (k ≤ o.length) ∧ (∀ m b, m < k → o[m]? = some b → b.n < x.n)) (L0 := [(1, _), (5, _), (6, _), (7, _)]) (o.length - 0) (.cons rfl (.cons rfl (.cons rfl (.cons rfl .nil)))) ⟨0, rfl, rfl, hS3, by omega, by omega⟩ ?_
      rintro _ _ w6 ⟨k, rfl, rfl, hS6, hk, hlt⟩
      refine wc_seq ?_
      refine wc_seq ?_
      have hS7 := hS6.drew
      refine wc_draw [0, 1, 2, 3, 4, 5, 6, 7, 8, 9, 10, 11, 12, 13, 14, 15, 16] [] mix (by kernel_rfl) ?_
      refine vc_p rfl rfl rfl (fun _ => (ev_move rfl)) ?_
      refine vc_p rfl rfl rfl (fun _ => (ev_move rfl)) ?_
      refine vc_p rfl rfl rfl (fun _ => (ev_lenL Tryz.underlying32 rfl)) ?_
      refine vc_p rfl rfl rfl (fun _ => (ev_lss rfl rfl)) ?_
      refine vc_p rfl rfl rfl (fun _ => (ev_move rfl)) ?_
      refine vc_splitD 22 rfl (fun h8 => ?_) (fun h8 => ?_)
      · skip
        obtain ⟨ob, oc3, hq3, _⟩ := hS7.own_at 0 rfl (by omega)
        cases hq3
        obtain ⟨y, hy⟩ : ∃ y, o[k]? = some y := ⟨_, List.getElem?_eq_getElem (by omega)⟩
        refine vc_p rfl rfl (guard_yes rfl rfl (decide_eq_true h8)) (fun _ => (Ev.gd (ev_move rfl))) ?_
        refine vc_p rfl rfl (guard_yes rfl rfl (decide_eq_true h8)) (fun _ => (Ev.gd (ev_move rfl))) ?_
        refine vc_p rfl rfl (guard_yes rfl rfl (decide_eq_true h8)) (fun _ => (Ev.gd (ev_indexAddr k rfl rfl (by first | rfl | omega) (by first | omega | exact (List.getElem?_eq_some_iff.1 hy).1) es_32))) ?_
        refine vc_p rfl rfl (guard_yes rfl rfl (decide_eq_true h8)) (fun _ => (Ev.gd (ev_fieldAddr rfl fo_34_0))) ?_
        refine vc_q rfl rfl (guard_yes rfl rfl (decide_eq_true h8)) (Ev.gd (ev_rowLoad0 jbC 0 k 0 hS7 rfl hy ag_3 rfl rfl)) ?_
        refine vc_p rfl rfl (guard_yes rfl rfl (decide_eq_true h8)) (fun _ => (Ev.gd (ev_move rfl))) ?_
        refine vc_p rfl rfl (guard_yes rfl rfl (decide_eq_true h8)) (fun _ => (Ev.gd (ev_move rfl))) ?_
        refine vc_p rfl rfl (guard_yes rfl rfl (decide_eq_true h8)) (fun _ => (Ev.gd (ev_indexAddr i rfl rfl (by first | rfl | omega) (by omega) es_32))) ?_
        refine vc_p rfl rfl (guard_yes rfl rfl (decide_eq_true h8)) (fun _ => (Ev.gd (ev_fieldAddr rfl fo_34_0))) ?_
        refine vc_q rfl rfl (guard_yes rfl rfl (decide_eq_true h8)) (Ev.gd (ev_load rfl ag_3 (((hC.sat hS7 1 rfl).at_ hx) 0 _ rfl))) ?_
        refine vc_p rfl rfl (guard_yes rfl rfl (decide_eq_true h8)) (fun _ => (Ev.gd (ev_lss rfl rfl))) ?_
        refine vc_p rfl rfl rfl (fun _ => (ev_pickT rfl (decide_eq_true h8) rfl)) ?_
        refine VC.nil ?_
        refine qs_seq ?_
        refine wc_sub (L' := [(34, _), (1, _), (5, _), (6, _), (7, _)]) (.cons rfl (.cons rfl (.cons rfl (.cons rfl (.cons rfl .nil))))) ?_
        refine wc_condD rfl (fun h9 => ?_) (fun h9 => ?_)
        · skip
          have hyx : y.n < x.n := by assumption
          refine wc_skip ?_
          refine qs_seq ?_
          refine wc_block ?_
          refine wc_region ?_
          refine wl_move rfl rfl ?_
          refine wl_add rfl rfl (by first | omega | (simp; omega)) (by first | omega | (simp; omega)) rfl ?_
          refine wl_assign rfl rfl ?_
          refine wl_nil ?_
          refine qs_block_normal ?_
          exact qs_round (L1 := [(1, _), (5, _), (6, _), (7, intV ((k + 1 : Nat) : Int))]) (.cons rfl (.cons rfl (.cons rfl (.cons rfl .nil)))) (k1 := o.length - (k + 1)) (by omega) ⟨k + 1, rfl, rfl, hS7.pick [0, 1] rfl, by omega, fun m b hm hb => by by_cases e : m = k; (subst e; rw [hy] at hb; cases hb; exact hyx); exact hlt m b (by omega) hb⟩
        refine wc_exit ?_
        refine qs_then_exit ?_
        refine qs_then_exit ?_
        refine qs_block_exit ?_
        exact qs_mid (.cons rfl (.cons rfl (.cons rfl (.cons rfl .nil)))) ⟨k, rfl, hS7.pick [0, 1] rfl, by omega, hlt, fun b hb => by rw [hy] at hb; cases hb; omega⟩
      refine vc_not rfl rfl (guard_no rfl rfl (decide_eq_false h8)) ?_
      refine vc_not rfl rfl (guard_no rfl rfl (decide_eq_false h8)) ?_
      refine vc_not rfl rfl (guard_no rfl rfl (decide_eq_false h8)) ?_
      refine vc_not rfl rfl (guard_no rfl rfl (decide_eq_false h8)) ?_
      refine vc_not rfl rfl (guard_no rfl rfl (decide_eq_false h8)) ?_
      refine vc_not rfl rfl (guard_no rfl rfl (decide_eq_false h8)) ?_
      refine vc_not rfl rfl (guard_no rfl rfl (decide_eq_false h8)) ?_
      refine vc_not rfl rfl (guard_no rfl rfl (decide_eq_false h8)) ?_
      refine vc_not rfl rfl (guard_no rfl rfl (decide_eq_false h8)) ?_
      refine vc_not rfl rfl (guard_no rfl rfl (decide_eq_false h8)) ?_
      refine vc_not rfl rfl (guard_no rfl rfl (decide_eq_false h8)) ?_
      refine vc_p rfl rfl rfl (fun _ => (ev_pickF rfl (decide_eq_false h8) rfl)) ?_
      refine VC.nil ?_
      refine qs_seq ?_
      refine wc_sub (L' := [(34, _), (1, _), (5, _), (6, _), (7, _)]) (.cons rfl (.cons rfl (.cons rfl (.cons rfl (.cons rfl .nil))))) ?_
      refine wc_condF rfl ?_
      refine wc_exit ?_
      refine qs_then_exit ?_
      refine qs_then_exit ?_
      refine qs_block_exit ?_
      exact qs_mid (.cons rfl (.cons rfl (.cons rfl (.cons rfl .nil)))) ⟨k, rfl, hS7.pick [0, 1] rfl, by omega, hlt, fun b hb => by rw [List.getElem?_eq_none (by omega)] at hb; cases hb⟩
    rintro _ w5 ⟨k, rfl, hS5, hk, hlt, hge⟩
    refine wc_seq ?_
    refine wc_region ?_
    refine wl_move rfl rfl ?_
    refine wl_move rfl rfl ?_
    have hv8 : Ent (rowT jbC (.slice oa o.length oc) o) (RdL jbC (viewV 2 (.slice oa o.length oc) k o.length) (o.drop k)) := fun h => by have q := RdL.view (C := jbC) (A := k) (B := o.length) (ent_row (C := jbC) (by omega) h) hoc (by omega) (by omega); rw [List.take_of_length_le (Nat.le_refl _)] at q; exact q
    refine wl_view k o.length Tryz.underlying32 sz_34 rfl (bndS k _ rfl rfl) (bndN _) (by omega) (by omega) rfl ?_
    refine wl_assign rfl rfl ?_
    refine wl_nil ?_
    refine qs_seq ?_
    refine wc_mid (fun E0 W0 => ∃ (j : Nat) (rv : Value), E0 = [(1, .slice (some ⟨cb, co, none⟩) ch.length cc), (5, .slice oa o.length oc), (6, intV (i : Int)), (7, intV (k : Int)), (8, rv)] ∧ Sat W0 [rowT jbC (.slice oa o.length oc) o, F] ∧ ((j = k + 1 ∧ ∃ b, o[k]? = some b ∧ b.n = x.n) ∨ (j = k ∧ ∀ b, o[k]? = some b → b.n ≠ x.n)) ∧ (Ent (rowT jbC (.slice oa o.length oc) o) (RdL jbC rv (o.drop j)))) ?_ ?_
    · skip
      refine wc_seq ?_
      refine wc_region ?_
      refine wl_move rfl rfl ?_
      refine wl_lenL Tryz.underlying32 rfl rfl ?_
      refine wl_gtr rfl rfl rfl ?_
      refine wl_nil ?_
      refine qs_seq ?_
      refine wc_sub (L' := [(42, _), (8, _), (1, _), (5, _), (6, _), (7, _)]) (.cons rfl (.cons rfl (.cons rfl (.cons rfl (.cons rfl (.cons rfl .nil)))))) ?_
      refine wc_condD rfl (fun h11 => ?_) (fun h11 => ?_)
      · skip
        obtain ⟨ob, oc3, hq3, _⟩ := hS5.own_at 0 rfl (by omega)
        cases hq3
        obtain ⟨y, hy⟩ : ∃ y, o[k]? = some y := ⟨_, List.getElem?_eq_getElem (by omega)⟩
        have hvs : viewV 2 (.slice (some ⟨ob, 0, none⟩) o.length oc) k o.length = .slice (some ⟨ob, 0 + k * 2, none⟩) (o.length - k) (oc - k) := view_some (by omega)
        rw [hvs] at hv8 ⊢
        refine wc_seq ?_
        have hS12 := hS5.drew
        refine wc_draw [0, 1, 2, 3, 4, 5, 6, 7, 8, 9] [] mix (by kernel_rfl) ?_
        refine vc_p rfl rfl rfl (fun _ => (ev_move rfl)) ?_
        refine vc_p rfl rfl rfl (fun _ => (ev_indexAddr 0 rfl rfl (by first | rfl | omega) (by omega) es_32)) ?_
        refine vc_p rfl rfl rfl (fun _ => (ev_fieldAddr rfl fo_34_0)) ?_
        refine vc_q rfl rfl rfl (ev_load rfl ag_3 (Sat.ocell hS12 0 rfl rfl (show (jbC.cells o)[0 + k * 2 + 0 * 2 + 0]? = some (intV y.n) from by rw [show 0 + k * 2 + 0 * 2 + 0 = k * 2 + 0 by omega]; exact RowC.cells_get (C := jbC) hy (o := 0) rfl))) ?_
        refine vc_p rfl rfl rfl (fun _ => (ev_move rfl)) ?_
        refine vc_p rfl rfl rfl (fun _ => (ev_move rfl)) ?_
        refine vc_p rfl rfl rfl (fun _ => (ev_indexAddr i rfl rfl (by first | rfl | omega) (by omega) es_32)) ?_
        refine vc_p rfl rfl rfl (fun _ => (ev_fieldAddr rfl fo_34_0)) ?_
        refine vc_q rfl rfl rfl (ev_load rfl ag_3 (((hC.sat hS12 1 rfl).at_ hx) 0 _ rfl)) ?_
        refine vc_p rfl rfl rfl (fun _ => (ev_eql rfl rfl)) ?_
        refine VC.nil ?_
        refine qs_seq ?_
        refine wc_sub (L' := [(52, _), (8, _), (1, _), (5, _), (6, _), (7, _)]) (.cons rfl (.cons rfl (.cons rfl (.cons rfl (.cons rfl (.cons rfl .nil)))))) ?_
        refine wc_condD rfl (fun h13 => ?_) (fun h13 => ?_)
        · skip
          have hyx : y.n = x.n := h13
          refine wc_region ?_
          refine wl_move rfl rfl ?_
          have hv9 : Ent (rowT jbC (.slice (some ⟨ob, 0, none⟩) o.length oc) o) (RdL jbC (viewV 2 (.slice (some ⟨ob, 0 + k * 2, none⟩) (o.length - k) (oc - k)) 1 (o.length - k)) (o.drop (k + 1))) := fun h => by have q := RdL.view (C := jbC) (A := 1) (B := o.length - k) (hv8 h) (by omega) (by omega) (by rw [List.length_drop]; omega); rw [List.take_of_length_le (by rw [List.length_drop]; omega), List.drop_drop] at q; exact q
          refine wl_view 1 (o.length - k) Tryz.underlying32 sz_34 rfl (bndS 1 _ rfl rfl) (bndN _) (by omega) (by omega) rfl ?_
          refine wl_assign rfl rfl ?_
          refine wl_nil ?_
          exact qs_mid (.cons rfl (.cons rfl (.cons rfl (.cons rfl (.cons rfl .nil))))) ⟨_, _, rfl, hS12.pick [0, 1] rfl, .inl ⟨rfl, y, hy, hyx⟩, hv9⟩
        have hyx : y.n ≠ x.n := h13
        refine wc_skip ?_
        exact qs_mid (.cons rfl (.cons rfl (.cons rfl (.cons rfl (.cons rfl .nil))))) ⟨_, _, rfl, hS12.pick [0, 1] rfl, .inr ⟨rfl, fun b hb => by rw [hy] at hb; cases hb; exact hyx⟩, hv8⟩
      refine wc_skip ?_
      exact qs_mid (.cons rfl (.cons rfl (.cons rfl (.cons rfl (.cons rfl .nil))))) ⟨_, _, rfl, hS5.pick [0, 1] rfl, .inr ⟨rfl, fun b hb => by rw [List.getElem?_eq_none (by omega)] at hb; cases hb⟩, hv8⟩
    rintro _ w10 ⟨j, rv, rfl, hS10, hj, hrv⟩
    refine wc_seq ?_
    refine wc_region ?_
    refine wl_move rfl rfl ?_
    refine wl_move rfl rfl ?_
    refine wl_indexAddr i rfl rfl (by first | rfl | omega) (by omega) es_32 rfl ?_
    refine wl_fieldAddr rfl fo_34_1 rfl ?_
    refine wl_load rfl ag_9 (((hC.sat hS10 1 rfl).at_ hx) 1 _ rfl) rfl ?_
    refine wl_eqlS rfl rfl rfl ?_
    refine wl_nil ?_
    refine qs_seq ?_
    refine wc_sub (L' := [(60, _), (1, _), (5, _), (6, _), (7, _), (8, _)]) (.cons rfl (.cons rfl (.cons rfl (.cons rfl (.cons rfl (.cons rfl .nil)))))) ?_
    refine wc_condD rfl (fun h14 => ?_) (fun h14 => ?_)
    · skip
      have hxd : x.d = [] := h14
      refine wc_region ?_
      refine wl_rowBuild jbC [] hS10 rfl Tryz.underlying32 ifz_34 rfl rfl rfl rfl (by first | rfl | simp [RowC.cells, fillL, splice]) rfl ?_
      intro b15 w15 hS15
      clear hS10
      refine wl_move rfl rfl ?_
      refine wl_move rfl rfl ?_
      refine wl_view 0 k Tryz.underlying32 sz_34 rfl (bndN _) (bndS k _ rfl rfl) (by omega) (by omega) rfl ?_
      refine wl_rowApp jbC 0 hS15 rfl rfl rfl (RdL.view (C := jbC) (A := 0) (B := k) (hS15.rd 1 rfl (by omega)) hoc (by omega) (by omega)) Tryz.underlying32 Tryz.underlying32 (by intro k hk; cases hk) ifo_34 rfl (by simp only [List.length_append, List.length_cons, List.length_nil, List.length_take, List.length_drop]; omega) rfl (by simp only [List.length_append, List.length_cons, List.length_nil, List.length_take, List.length_drop]; omega) ?_
      intro v16 w16 hS16; dsimp only [List.set] at hS16
      clear hS15
      have h1v16 : v16.oneCell' = true := hS16.own_one 0 rfl
      refine wl_move rfl rfl ?_
      refine wl_rowApp jbC 0 hS16 rfl rfl rfl (hrv.sat hS16 1 rfl) Tryz.underlying32 Tryz.underlying32 (by intro k hk; cases hk) ifo_34 rfl (by simp only [List.length_append, List.length_cons, List.length_nil, List.length_take, List.length_drop]; omega) rfl (by simp only [List.length_append, List.length_cons, List.length_nil, List.length_take, List.length_drop]; omega) ?_
      intro v17 w17 hS17; dsimp only [List.set] at hS17
      clear hS16
      have h1v17 : v17.oneCell' = true := hS17.own_one 0 rfl
      refine wl_assign rfl rfl ?_
      refine wl_nil ?_
      refine qs_block_normal ?_
      refine qs_seq ?_
      refine wc_sub (L' := [(5, _), (1, _), (6, _)]) (.cons rfl (.cons rfl (.cons rfl .nil))) ?_
      refine wc_region ?_
      refine wl_move rfl rfl ?_
      refine wl_add rfl rfl (by first | omega | (simp; omega)) (by first | omega | (simp; omega)) rfl ?_
      refine wl_assign rfl rfl ?_
      refine wl_nil ?_
      have hI := insK_a (o := o) (x := x) (k := k) (j := j) hxd
      rw [hI] at hS17
      obtain ⟨oa2, oc2, rfl, hoc2, _⟩ := hS17.own_shape 0 rfl
      have hxr := hr x (List.mem_of_getElem? hx)
      have hnx : insK o x k j = listB (withB B (ch.take (i + 1))) := by subst ho; rw [withB_snoc hx]; exact insK_ok hxr hlt hge hj
      exact qs_round (L1 := [(1, _), (5, _), (6, intV ((i + 1 : Nat) : Int))]) (.cons rfl (.cons rfl (.cons rfl .nil))) (k1 := ch.length - (i + 1)) (by omega) ⟨i + 1, _, _, insK o x k j, rfl, rfl, hS17.pick [0, 2] rfl, by omega, hnx, hoc2⟩
    have hxd : ¬ x.d = [] := h14
    have hS18 := hS10.drew
    refine wc_draws mix ?_
    refine dr_split 0 9 rfl ?_ ?_
    · skip
      refine dr_split 4 9 rfl ?_ ?_
      · skip
        refine dr_vc (sp := [0, 4, 9, 10, 12]) [1, 2, 3, 5, 6, 7, 8, 11, 0, 4, 9, 10, 12, 13] (by kernel_rfl) ?_
        refine vc_p rfl rfl rfl (fun _ => (ev_move rfl)) ?_
        refine vc_p rfl rfl rfl (fun _ => (ev_move rfl)) ?_
        refine vc_p rfl rfl rfl (fun _ => (ev_view 0 k Tryz.underlying32 sz_34 rfl (bndN _) (bndS k _ rfl rfl) (by omega) (by omega))) ?_
        refine vc_p rfl rfl rfl (fun _ => (ev_move rfl)) ?_
        refine vc_p rfl rfl rfl (fun _ => (ev_move rfl)) ?_
        refine vc_p rfl rfl rfl (fun _ => (ev_indexAddr i rfl rfl (by first | rfl | omega) (by omega) es_32)) ?_
        refine vc_q rfl rfl rfl (ev_loadAt rfl ag_34 sz_34 (vs := bV x) ((hC.sat hS18 1 rfl).at_ hx)) ?_
        refine vc_p rfl rfl rfl (fun _ => (ev_move rfl)) ?_
        refine vc_s rfl rfl rfl rfl rfl rfl ?_
        refine wl_rowBuild jbC [] hS18 rfl Tryz.underlying32 ifz_34 rfl rfl rfl rfl (by first | rfl | simp [RowC.cells, fillL, splice]) rfl ?_
        intro b19 w19 hS19
        clear hS18
        refine vc_e (.cons (.inl ⟨rfl, (ev_loadAt rfl ag_34 sz_34 (vs := bV x) ((hC.sat hS19 2 rfl).at_ hx))⟩) .nil) ?_
        refine vc_s rfl rfl rfl rfl rfl rfl ?_
        refine wl_rowApp jbC 0 hS19 rfl rfl rfl (RdL.view (C := jbC) (A := 0) (B := k) (hS19.rd 1 rfl (by omega)) hoc (by omega) (by omega)) Tryz.underlying32 Tryz.underlying32 (by intro k hk; cases hk) ifo_34 rfl (by simp only [List.length_append, List.length_cons, List.length_nil, List.length_take, List.length_drop]; omega) rfl (by simp only [List.length_append, List.length_cons, List.length_nil, List.length_take, List.length_drop]; omega) ?_
        intro v20 w20 hS20; dsimp only [List.set] at hS20
        clear hS19
        have h1v20 : v20.oneCell' = true := hS20.own_one 0 rfl
        refine vc_e (.cons (.inl ⟨rfl, (ev_loadAt rfl ag_34 sz_34 (vs := bV x) ((hC.sat hS20 2 rfl).at_ hx))⟩) .nil) ?_
        refine vc_s rfl rfl rfl rfl rfl rfl ?_
        refine wl_rowBuild jbC [x] hS20 rfl Tryz.underlying32 ifz_34 rfl rfl rfl rfl (by first | rfl | simp [RowC.cells, fillL, splice]) rfl ?_
        intro b21 w21 hS21
        clear hS20
        refine vc_e (.skip (by kernel_rfl) .nil) ?_
        refine vc_s rfl rfl rfl rfl rfl rfl ?_
        refine wl_rowApp jbC 1 hS21 rfl rfl rfl (hS21.rd 0 rfl (by simp)) Tryz.underlying32 Tryz.underlying32 (by intro k hk; cases hk) ifo_34 rfl (by simp only [List.length_append, List.length_cons, List.length_nil, List.length_take, List.length_drop]; omega) rfl (by simp only [List.length_append, List.length_cons, List.length_nil, List.length_take, List.length_drop]; omega) ?_
        intro v22 w22 hS22; dsimp only [List.set] at hS22
        clear hS21
        have h1v22 : v22.oneCell' = true := hS22.own_one 1 rfl
        refine vc_e (.skip (by kernel_rfl) .nil) ?_
        refine vc_s rfl rfl rfl rfl rfl rfl ?_
        refine wl_rowApp jbC 1 hS22 rfl rfl rfl (hrv.sat hS22 2 rfl) Tryz.underlying32 Tryz.underlying32 (by intro k hk; cases hk) ifo_34 rfl (by simp only [List.length_append, List.length_cons, List.length_nil, List.length_take, List.length_drop]; omega) rfl (by simp only [List.length_append, List.length_cons, List.length_nil, List.length_take, List.length_drop]; omega) ?_
        intro v23 w23 hS23; dsimp only [List.set] at hS23
        clear hS22
        have h1v23 : v23.oneCell' = true := hS23.own_one 1 rfl
        refine vc_e (.skip (by kernel_rfl) .nil) ?_
        refine vc_p rfl rfl rfl (fun _ => (ev_assign rfl)) ?_
        refine VC.nil ?_
        refine qs_block_normal ?_
        refine qs_seq ?_
        refine wc_sub (L' := [(5, _), (1, _), (6, _)]) (.cons rfl (.cons rfl (.cons rfl .nil))) ?_
        refine wc_region ?_
        refine wl_move rfl rfl ?_
        refine wl_add rfl rfl (by first | omega | (simp; omega)) (by first | omega | (simp; omega)) rfl ?_
        refine wl_assign rfl rfl ?_
        refine wl_nil ?_
        have hI := insK_b (o := o) (x := x) (k := k) (j := j) hxd
        rw [hI] at hS23
        obtain ⟨oa2, oc2, rfl, hoc2, _⟩ := hS23.own_shape 1 rfl
        have hxr := hr x (List.mem_of_getElem? hx)
        have hnx : insK o x k j = listB (withB B (ch.take (i + 1))) := by subst ho; rw [withB_snoc hx]; exact insK_ok hxr hlt hge hj
        exact qs_round (L1 := [(1, _), (5, _), (6, intV ((i + 1 : Nat) : Int))]) (.cons rfl (.cons rfl (.cons rfl .nil))) (k1 := ch.length - (i + 1)) (by omega) ⟨i + 1, _, _, insK o x k j, rfl, rfl, hS23.pick [1, 3] rfl, by omega, hnx, hoc2⟩
      refine dr_vc (sp := [0, 4, 9, 10, 12]) [1, 2, 3, 5, 6, 7, 8, 11, 0, 9, 4, 10, 12, 13] (by kernel_rfl) ?_
      refine vc_p rfl rfl rfl (fun _ => (ev_move rfl)) ?_
      refine vc_p rfl rfl rfl (fun _ => (ev_move rfl)) ?_
      refine vc_p rfl rfl rfl (fun _ => (ev_view 0 k Tryz.underlying32 sz_34 rfl (bndN _) (bndS k _ rfl rfl) (by omega) (by omega))) ?_
      refine vc_p rfl rfl rfl (fun _ => (ev_move rfl)) ?_
      refine vc_p rfl rfl rfl (fun _ => (ev_move rfl)) ?_
      refine vc_p rfl rfl rfl (fun _ => (ev_indexAddr i rfl rfl (by first | rfl | omega) (by omega) es_32)) ?_
      refine vc_q rfl rfl rfl (ev_loadAt rfl ag_34 sz_34 (vs := bV x) ((hC.sat hS18 1 rfl).at_ hx)) ?_
      refine vc_p rfl rfl rfl (fun _ => (ev_move rfl)) ?_
      refine vc_s rfl rfl rfl rfl rfl rfl ?_
      refine wl_rowBuild jbC [] hS18 rfl Tryz.underlying32 ifz_34 rfl rfl rfl rfl (by first | rfl | simp [RowC.cells, fillL, splice]) rfl ?_
      intro b24 w24 hS24
      clear hS18
      refine vc_e (.cons (.inl ⟨rfl, (ev_loadAt rfl ag_34 sz_34 (vs := bV x) ((hC.sat hS24 2 rfl).at_ hx))⟩) .nil) ?_
      refine vc_s rfl rfl rfl rfl rfl rfl ?_
      refine wl_rowBuild jbC [x] hS24 rfl Tryz.underlying32 ifz_34 rfl rfl rfl rfl (by first | rfl | simp [RowC.cells, fillL, splice]) rfl ?_
      intro b25 w25 hS25
      clear hS24
      refine vc_e (.skip (by kernel_rfl) .nil) ?_
      refine vc_s rfl rfl rfl rfl rfl rfl ?_
      refine wl_rowApp jbC 1 hS25 rfl rfl rfl (RdL.view (C := jbC) (A := 0) (B := k) (hS25.rd 2 rfl (by omega)) hoc (by omega) (by omega)) Tryz.underlying32 Tryz.underlying32 (by intro k hk; cases hk) ifo_34 rfl (by simp only [List.length_append, List.length_cons, List.length_nil, List.length_take, List.length_drop]; omega) rfl (by simp only [List.length_append, List.length_cons, List.length_nil, List.length_take, List.length_drop]; omega) ?_
      intro v26 w26 hS26; dsimp only [List.set] at hS26
      clear hS25
      have h1v26 : v26.oneCell' = true := hS26.own_one 1 rfl
      refine vc_e (.cons (.inl ⟨rfl, (ev_loadAt rfl ag_34 sz_34 (vs := bV x) ((hC.sat hS26 3 rfl).at_ hx))⟩) .nil) ?_
      refine vc_s rfl rfl rfl rfl rfl rfl ?_
      refine wl_rowApp jbC 1 hS26 rfl rfl rfl (hS26.rd 0 rfl (by simp)) Tryz.underlying32 Tryz.underlying32 (by intro k hk; cases hk) ifo_34 rfl (by simp only [List.length_append, List.length_cons, List.length_nil, List.length_take, List.length_drop]; omega) rfl (by simp only [List.length_append, List.length_cons, List.length_nil, List.length_take, List.length_drop]; omega) ?_
      intro v27 w27 hS27; dsimp only [List.set] at hS27
      clear hS26
      have h1v27 : v27.oneCell' = true := hS27.own_one 1 rfl
      refine vc_e (.skip (by kernel_rfl) .nil) ?_
      refine vc_s rfl rfl rfl rfl rfl rfl ?_
      refine wl_rowApp jbC 1 hS27 rfl rfl rfl (hrv.sat hS27 2 rfl) Tryz.underlying32 Tryz.underlying32 (by intro k hk; cases hk) ifo_34 rfl (by simp only [List.length_append, List.length_cons, List.length_nil, List.length_take, List.length_drop]; omega) rfl (by simp only [List.length_append, List.length_cons, List.length_nil, List.length_take, List.length_drop]; omega) ?_
      intro v28 w28 hS28; dsimp only [List.set] at hS28
      clear hS27
      have h1v28 : v28.oneCell' = true := hS28.own_one 1 rfl
      refine vc_e (.skip (by kernel_rfl) .nil) ?_
      refine vc_p rfl rfl rfl (fun _ => (ev_assign rfl)) ?_
      refine VC.nil ?_
      refine qs_block_normal ?_
      refine qs_seq ?_
      refine wc_sub (L' := [(5, _), (1, _), (6, _)]) (.cons rfl (.cons rfl (.cons rfl .nil))) ?_
      refine wc_region ?_
      refine wl_move rfl rfl ?_
      refine wl_add rfl rfl (by first | omega | (simp; omega)) (by first | omega | (simp; omega)) rfl ?_
      refine wl_assign rfl rfl ?_
      refine wl_nil ?_
      have hI := insK_b (o := o) (x := x) (k := k) (j := j) hxd
      rw [hI] at hS28
      obtain ⟨oa2, oc2, rfl, hoc2, _⟩ := hS28.own_shape 1 rfl
      have hxr := hr x (List.mem_of_getElem? hx)
      have hnx : insK o x k j = listB (withB B (ch.take (i + 1))) := by subst ho; rw [withB_snoc hx]; exact insK_ok hxr hlt hge hj
      exact qs_round (L1 := [(1, _), (5, _), (6, intV ((i + 1 : Nat) : Int))]) (.cons rfl (.cons rfl (.cons rfl .nil))) (k1 := ch.length - (i + 1)) (by omega) ⟨i + 1, _, _, insK o x k j, rfl, rfl, hS28.pick [1, 3] rfl, by omega, hnx, hoc2⟩
    refine dr_vc (sp := [0, 4, 9, 10, 12]) [1, 2, 3, 5, 6, 7, 8, 11, 9, 0, 4, 10, 12, 13] (by kernel_rfl) ?_
    refine vc_p rfl rfl rfl (fun _ => (ev_move rfl)) ?_
    refine vc_p rfl rfl rfl (fun _ => (ev_move rfl)) ?_
    refine vc_p rfl rfl rfl (fun _ => (ev_view 0 k Tryz.underlying32 sz_34 rfl (bndN _) (bndS k _ rfl rfl) (by omega) (by omega))) ?_
    refine vc_p rfl rfl rfl (fun _ => (ev_move rfl)) ?_
    refine vc_p rfl rfl rfl (fun _ => (ev_move rfl)) ?_
    refine vc_p rfl rfl rfl (fun _ => (ev_indexAddr i rfl rfl (by first | rfl | omega) (by omega) es_32)) ?_
    refine vc_q rfl rfl rfl (ev_loadAt rfl ag_34 sz_34 (vs := bV x) ((hC.sat hS18 1 rfl).at_ hx)) ?_
    refine vc_p rfl rfl rfl (fun _ => (ev_move rfl)) ?_
    refine vc_s rfl rfl rfl rfl rfl rfl ?_
    refine wl_rowBuild jbC [x] hS18 rfl Tryz.underlying32 ifz_34 rfl rfl rfl rfl (by first | rfl | simp [RowC.cells, fillL, splice]) rfl ?_
    intro b29 w29 hS29
    clear hS18
    refine vc_e (.skip (by kernel_rfl) .nil) ?_
    refine vc_s rfl rfl rfl rfl rfl rfl ?_
    refine wl_rowBuild jbC [] hS29 rfl Tryz.underlying32 ifz_34 rfl rfl rfl rfl (by first | rfl | simp [RowC.cells, fillL, splice]) rfl ?_
    intro b30 w30 hS30
    clear hS29
    refine vc_e (.cons (.inl ⟨rfl, (ev_loadAt rfl ag_34 sz_34 (vs := bV x) ((hC.sat hS30 3 rfl).at_ hx))⟩) .nil) ?_
    refine vc_s rfl rfl rfl rfl rfl rfl ?_
    refine wl_rowApp jbC 0 hS30 rfl rfl rfl (RdL.view (C := jbC) (A := 0) (B := k) (hS30.rd 2 rfl (by omega)) hoc (by omega) (by omega)) Tryz.underlying32 Tryz.underlying32 (by intro k hk; cases hk) ifo_34 rfl (by simp only [List.length_append, List.length_cons, List.length_nil, List.length_take, List.length_drop]; omega) rfl (by simp only [List.length_append, List.length_cons, List.length_nil, List.length_take, List.length_drop]; omega) ?_
    intro v31 w31 hS31; dsimp only [List.set] at hS31
    clear hS30
    have h1v31 : v31.oneCell' = true := hS31.own_one 0 rfl
    refine vc_e (.cons (.inl ⟨rfl, (ev_loadAt rfl ag_34 sz_34 (vs := bV x) ((hC.sat hS31 3 rfl).at_ hx))⟩) .nil) ?_
    refine vc_s rfl rfl rfl rfl rfl rfl ?_
    refine wl_rowApp jbC 0 hS31 rfl rfl rfl (hS31.rd 1 rfl (by simp)) Tryz.underlying32 Tryz.underlying32 (by intro k hk; cases hk) ifo_34 rfl (by simp only [List.length_append, List.length_cons, List.length_nil, List.length_take, List.length_drop]; omega) rfl (by simp only [List.length_append, List.length_cons, List.length_nil, List.length_take, List.length_drop]; omega) ?_
    intro v32 w32 hS32; dsimp only [List.set] at hS32
    clear hS31
    have h1v32 : v32.oneCell' = true := hS32.own_one 0 rfl
    refine vc_e (.skip (by kernel_rfl) .nil) ?_
    refine vc_s rfl rfl rfl rfl rfl rfl ?_
    refine wl_rowApp jbC 0 hS32 rfl rfl rfl (hrv.sat hS32 2 rfl) Tryz.underlying32 Tryz.underlying32 (by intro k hk; cases hk) ifo_34 rfl (by simp only [List.length_append, List.length_cons, List.length_nil, List.length_take, List.length_drop]; omega) rfl (by simp only [List.length_append, List.length_cons, List.length_nil, List.length_take, List.length_drop]; omega) ?_
    intro v33 w33 hS33; dsimp only [List.set] at hS33
    clear hS32
    have h1v33 : v33.oneCell' = true := hS33.own_one 0 rfl
    refine vc_e (.skip (by kernel_rfl) .nil) ?_
    refine vc_p rfl rfl rfl (fun _ => (ev_assign rfl)) ?_
    refine VC.nil ?_
    refine qs_block_normal ?_
    refine qs_seq ?_
    refine wc_sub (L' := [(5, _), (1, _), (6, _)]) (.cons rfl (.cons rfl (.cons rfl .nil))) ?_
    refine wc_region ?_
    refine wl_move rfl rfl ?_
    refine wl_add rfl rfl (by first | omega | (simp; omega)) (by first | omega | (simp; omega)) rfl ?_
    refine wl_assign rfl rfl ?_
    refine wl_nil ?_
    have hI := insK_b (o := o) (x := x) (k := k) (j := j) hxd
    rw [hI] at hS33
    obtain ⟨oa2, oc2, rfl, hoc2, _⟩ := hS33.own_shape 0 rfl
    have hxr := hr x (List.mem_of_getElem? hx)
    have hnx : insK o x k j = listB (withB B (ch.take (i + 1))) := by subst ho; rw [withB_snoc hx]; exact insK_ok hxr hlt hge hj
    exact qs_round (L1 := [(1, _), (5, _), (6, intV ((i + 1 : Nat) : Int))]) (.cons rfl (.cons rfl (.cons rfl .nil))) (k1 := ch.length - (i + 1)) (by omega) ⟨i + 1, _, _, insK o x k j, rfl, rfl, hS33.pick [0, 3] rfl, by omega, hnx, hoc2⟩
  refine wc_exit ?_
  refine qs_then_exit ?_
  refine qs_then_exit ?_
  refine qs_block_exit ?_
  refine qs_seq ?_
  refine wc_seq ?_
  refine wc_region ?_
  refine wl_move rfl rfl ?_
  refine wl_assign rfl rfl ?_
  refine wl_nil ?_
  refine qs_seq ?_
  refine wc_ret ?_
  refine fin1 (.inr rfl) rfl rfl ?_
  exact ⟨_, rfl, by rw [List.take_of_length_le (by omega)] at ho; rw [← ho]; exact hS3.pick [0, 1] rfl⟩
end Go.Proofs.YtfmkodmmbgibgaaGreatDoor
