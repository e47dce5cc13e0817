/- journal: Same, With -/
import Derived.Test.YtfmkodmmbgibgaaGreatDoorJw5
import Derived.ChangeKeysEq
import Derived.Laws.StructEq
namespace Go.Proofs.YtfmkodmmbgibgaaGreatDoor
open Go.RowKit M
set_option linter.unusedVariables false
section
variable {P : Program} {n : Nat} {ops : Array Oper} {Q : Exit → Act → World → Prop} {rest : List Oper} {L : Env} {w : World} {d : Nat} {ty : TypeId} {pos : String} {aft : Array Edge} {As : List Th}
theorem ev_neqAgg {t t2 : Nat} {x y : Operand} {xs ys : Array Value} {b : Bool} (h : ∀ w, (Op.equal t (.agg xs) (.agg ys)).run P w = .ok b w) (hg : P.eqGuardType P.depth t = false) (hx : M.look L x = some (.agg xs)) (hy : M.look L y = some (.agg ys)) : Ev P L w ⟨some d, .binOp .neq t x y t2, ty, pos, aft, none⟩ (.bool (!b)) := fun ρ hρ => by
  have h := h w
  simp [execOp, hρ _ _ hx, hρ _ _ hy, eqGuard, binOp, program, Sem.run, hg] at h ⊢
  rw [h]
  rfl
end
theorem eqBlk (x y : Blk) (w : World) : (Op.equal 34 (.agg #[intV x.n, strV x.d]) (.agg #[intV y.n, strV y.d])).run Tryz.prog w = .ok (decide (x.n = y.n ∧ x.d = y.d)) w := by
  have u3 := Tryz.underlying3
  have a3 : aggB Tryz.prog 3 = some false := by kernel_rfl
  have u9 := Tryz.underlying9
  have a9 : aggB Tryz.prog 9 = some false := by kernel_rfl
  have hS : Tryz.prog.underlying 34 = some (.struct (Tryz.prog.fieldsOf 34)) := by kernel_rfl
  have hp : Tryz.prog.stoodInHeld 34 = false := by kernel_rfl
  unfold Op.equal Op.maxDepth
  generalize hN : (10000 : Nat) = N
  obtain ⟨m, rfl⟩ : ∃ m, N = m + 1 + 1 := ⟨9998, by omega⟩
  rw [run_equalIn_struct w (m + 1) 34 _ _ hS hp]
  have q0 := fun w => run_part1 (P := Tryz.prog) a3 #[intV x.n, strV x.d] 0 _ rfl w
  have q1 := fun w => run_part1 (P := Tryz.prog) a9 #[intV x.n, strV x.d] 1 _ rfl w
  have r0 := fun w => run_part1 (P := Tryz.prog) a3 #[intV y.n, strV y.d] 0 _ rfl w
  have r1 := fun w => run_part1 (P := Tryz.prog) a9 #[intV y.n, strV y.d] 1 _ rfl w
  simp only [Program.fieldsOf, Tryz.underlying34, Op.eqFields, Sem.run_bind, q0, q1, r0, r1, Result.andThen_ok, run_equalIn_string _ _ _ _ _ u9, run_equalIn_int _ _ _ _ _ _ _ u3, Sem.run_ite, Sem.run_pure]
  by_cases h0 : x.n = y.n <;> by_cases h1 : x.d = y.d <;> simp [h0, h1, run_equalIn_string _ _ _ _ _ u9, run_equalIn_int _ _ _ _ _ _ _ u3]
theorem same_endB {l1 l2 : List Blk} {i : Nat} (h : ∀ j, j < i → l1[j]? = l2[j]?) (h1 : i = l1.length) (h2 : l1.length = l2.length) : l1 = l2 := by
  apply List.ext_getElem?
  intro j
  by_cases hj : j < i
  · exact h j hj
  · rw [List.getElem?_eq_none (by omega), List.getElem?_eq_none (by omega)]
theorem blk_ext {y z : Blk} (h : y.n = z.n ∧ y.d = z.d) : y = z := by cases y; cases z; simp_all
set_option maxRecDepth 100000 in
theorem bsame_sp {w : World} {F : Th} (hS : Sat w [F]) {v1 v2 : Value} {l1 l2 : List Blk} (hE1 : Ent F (RdL jbC v1 l1)) (hE2 : Ent F (RdL jbC v2 l2)) :
    Calls Tryz.prog 12 #[v1, v2] w (Ret fun v w' => v = .bool (decide (l1 = l2)) ∧ Sat w' [F]) := by
 obtain ⟨ao1, cap1, rfl, hm1⟩ := (hE1.sat hS 0 rfl).shape
 obtain ⟨ao2, cap2, rfl, hm2⟩ := (hE2.sat hS 0 rfl).shape
 refine calls_enter Tryz.func12 rfl Tryz.ntmps12 rfl ?_
 refine wc_seq (wc_region (wl_assign rfl rfl (wl_nil (qs_seq (wc_seq (wc_seq (wc_region (wl_move rfl rfl ?_))))))))
 refine wl_lenL Tryz.underlying32 rfl rfl ?_
 refine wl_move rfl rfl ?_
 refine wl_lenL Tryz.underlying32 rfl rfl ?_
 refine wl_neq rfl rfl rfl ?_
 refine wl_nil (qs_seq ?_)
 refine wc_condD rfl (fun h1 => ?_) (fun h1 => ?_)
 ·refine wc_seq (wc_region (wl_assign rfl rfl (wl_nil (qs_seq (wc_ret (qs_then_ret ?_))))))
  refine fin1 (.inr rfl) rfl rfl ?_
  exact ⟨_, rfl, by rw [decide_eq_false (by rintro rfl; omega)], hS⟩
 refine wc_skip (qs_seq (wc_seq (wc_seq (wc_region (wl_assign rfl rfl (wl_nil (qs_seq (wc_block ?_))))))))
 refine wc_loop (fun K0 E0 W0 => ∃ (i : Nat), K0 = l1.length - i ∧ E0 = [(0, .slice ao1 l1.length cap1), (1, .slice ao2 l2.length cap2), (5, intV (i : Int))] ∧ Sat W0 [F] ∧ (i ≤ l1.length) ∧ (∀ j, j < i → l1[j]? = l2[j]?)) (L0 := [(0, _), (1, _), (5, _)]) (l1.length - 0) (.cons rfl (.cons rfl (.cons rfl .nil))) ⟨0, rfl, rfl, hS, by omega, by omega⟩ ?_
 rintro _ _ w2 ⟨i, rfl, rfl, hS2, hi, hok⟩
 refine wc_seq (wc_seq (wc_region (wl_move rfl rfl (wl_move rfl rfl ?_))))
 refine wl_lenL Tryz.underlying32 rfl rfl ?_
 refine wl_lss rfl rfl rfl ?_
 refine wl_nil (qs_seq ?_)
 refine wc_condD rfl (fun h3 => ?_) (fun h3 => ?_)
 ·obtain ⟨y, hy⟩ : ∃ y, l1[i]? = some y := ⟨_, List.getElem?_eq_getElem (by omega)⟩
  obtain ⟨z, hz⟩ : ∃ z, l2[i]? = some z := ⟨_, List.getElem?_eq_getElem (by omega)⟩
  obtain ⟨b1, off1, rfl, hc1⟩ := (hE1.sat hS2 0 rfl).get hy
  obtain ⟨b2, off2, rfl, hc2⟩ := (hE2.sat hS2 0 rfl).get hz
  refine wc_skip (qs_seq (wc_seq (wc_block (wc_seq ?_))))
  have hS4 := hS2.drew
  refine wc_draw [0, 1, 2, 3, 4, 5, 6, 7, 8] [] mix (by kernel_rfl) ?_
  refine vc_p rfl rfl rfl (fun _ => (ev_move rfl)) ?_
  refine vc_p rfl rfl rfl (fun _ => (ev_move rfl)) ?_
  refine vc_p rfl rfl rfl (fun _ => (ev_indexAddr i rfl rfl (by first | rfl | omega) (by exact (List.getElem?_eq_some_iff.1 hy).1) es_32)) ?_
  refine vc_q rfl rfl rfl (ev_loadAt rfl ag_34 sz_34 (vs := bV y) hc1) ?_
  refine vc_p rfl rfl rfl (fun _ => (ev_move rfl)) ?_
  refine vc_p rfl rfl rfl (fun _ => (ev_move rfl)) ?_
  refine vc_p rfl rfl rfl (fun _ => (ev_indexAddr i rfl rfl (by first | rfl | omega) (by exact (List.getElem?_eq_some_iff.1 hz).1) es_32)) ?_
  refine vc_q rfl rfl rfl (ev_loadAt rfl ag_34 sz_34 (vs := bV z) hc2) ?_
  refine vc_p rfl rfl rfl (fun _ => (ev_neqAgg (eqBlk y z) (by kernel_rfl) rfl rfl)) ?_
  refine VC.nil (qs_seq ?_)
  refine wc_sub (L' := [(25, _), (0, _), (1, _), (5, _)]) (.cons rfl (.cons rfl (.cons rfl (.cons rfl .nil)))) ?_
  refine wc_cond rfl (fun h5 => ?_) (fun h5 => ?_)
  ·have hne : y ≠ z := by rintro rfl; simp at h5
   refine wc_seq (wc_region (wl_assign rfl rfl (wl_nil (qs_seq (wc_ret (qs_block_ret (qs_then_ret (qs_then_ret (qs_block_ret (qs_then_ret ?_))))))))))
   refine fin1 (.inr rfl) rfl rfl ?_
   exact ⟨_, rfl, by rw [decide_eq_false (by rintro rfl; rw [hy] at hz; cases hz; exact hne rfl)], hS4⟩
  have heq : y = z := blk_ext (by simpa using h5)
  refine wc_skip (qs_block_normal (qs_seq (wc_region (wl_move rfl rfl ?_))))
  refine wl_add rfl rfl (by first | omega | (simp; omega)) (by first | omega | (simp; omega)) rfl ?_
  refine wl_assign rfl rfl (wl_nil ?_)
  exact qs_round (L1 := [(0, _), (1, _), (5, intV ((i + 1 : Nat) : Int))]) (.cons rfl (.cons rfl (.cons rfl .nil))) (k1 := l1.length - (i + 1)) (by omega) ⟨i + 1, rfl, rfl, hS4, by omega, fun j hj => by by_cases e : j = i; (subst e; rw [hy, hz, heq]); exact hok j (by omega)⟩
 refine wc_exit (qs_then_exit (qs_then_exit (qs_block_exit (qs_seq (wc_seq (wc_region (wl_assign rfl rfl (wl_nil (qs_seq (wc_ret ?_))))))))))
 refine fin1 (.inr rfl) rfl rfl ?_
 exact ⟨_, rfl, by rw [decide_eq_true (same_endB hok (by omega) (by omega))], hS2⟩
theorem insK_a {o : List Blk} {x : Blk} {k j : Nat} (h : x.d = []) : [] ++ (o.take k).drop 0 ++ o.drop j = insK o x k j := by unfold insK; rw [if_pos h]; simp
theorem insK_b {o : List Blk} {x : Blk} {k j : Nat} (h : ¬ x.d = []) : [] ++ (o.take k).drop 0 ++ [x] ++ o.drop j = insK o x k j := by unfold insK; rw [if_neg h]; simp
theorem listB_len (B : Int → Bytes) : (listB B).length ≤ 2048 := by rw [← listN_all]; exact listN_len B 2048
set_option maxRecDepth 100000 in
set_option maxHeartbeats 20000000 in
theorem with_sp {w : World} {F : Th} (hS : Sat w [F]) {lv cv : Value} {B : Int → Bytes} {ch : List Blk} (hA : Ent F (RdL jbC lv (listB B))) (hC : Ent F (RdL jbC cv ch)) (hr : ∀ x ∈ ch, 0 ≤ x.n ∧ x.n < 2048) :
    Calls Tryz.prog 15 #[lv, cv] w (Ret fun v w' => Sat w' [rowT jbC v (listB (withB B ch)), F]) := by
 obtain ⟨la, lc, rfl, hlm⟩ := (hA.sat hS 0 rfl).shape
 obtain ⟨ca, cc, rfl, hcm⟩ := (hC.sat hS 0 rfl).shape
 refine calls_enter Tryz.func15 rfl Tryz.ntmps15 rfl ?_
 have hbl := listB_len B
 refine wc_seq (wc_region (wl_assign rfl rfl (wl_nil (qs_seq (wc_seq (wc_region ?_))))))
 refine wl_rowBuild jbC [] hS rfl Tryz.underlying32 ifz_34 rfl rfl rfl rfl (by first | rfl | simp [RowC.cells, fillL, splice]) rfl ?_
 intro b1 w1 hS1
 refine wl_move rfl rfl ?_
 refine wl_rowApp jbC 0 hS1 rfl rfl rfl (hA.sat hS1 1 rfl) Tryz.underlying32 Tryz.underlying32 (by intro k hk; cases hk) ifo_34 rfl (by simp only [List.length_append, List.length_cons, List.length_nil, List.length_take, List.length_drop]; omega) rfl (by simp only [List.length_append, List.length_cons, List.length_nil, List.length_take, List.length_drop]; omega) ?_
 intro v2 w2 hS2; dsimp only [List.set] at hS2
 clear hS1
 have h1v2 : v2.oneCell' = true := hS2.own_one 0 rfl
 refine wl_assign rfl rfl (wl_nil (qs_seq (wc_seq (wc_seq (wc_region (wl_assign rfl rfl (wl_nil (qs_seq (wc_block ?_)))))))))
 rw [List.nil_append] at hS2
 obtain ⟨oa0, oc0, rfl, hoc0, _⟩ := hS2.own_shape 0 rfl
 refine wc_loop (fun K0 E0 W0 => ∃ (i : Nat) (oa : Option Addr) (oc : Nat) (o : List Blk), K0 = ch.length - i ∧ E0 = [(1, .slice ca ch.length cc), (5, .slice oa o.length oc), (6, intV (i : Int))] ∧ Sat W0 [rowT jbC (.slice oa o.length oc) o, F] ∧ (i ≤ ch.length) ∧ (o = listB (withB B (ch.take i))) ∧ (o.length ≤ oc)) (L0 := [(1, _), (5, _), (6, _)]) (ch.length - 0) (.cons rfl (.cons rfl (.cons rfl .nil))) ⟨0, oa0, oc0, _, rfl, rfl, hS2.pick [0, 1] rfl, by omega, by rw [List.take_zero, withB_nil], hoc0⟩ ?_
 rintro _ _ w3 ⟨i, oa, oc, o, rfl, rfl, hS3, hi, ho, hoc⟩
 have hol : o.length ≤ 2048 := by rw [ho]; exact listB_len _
 refine wc_seq (wc_seq (wc_region (wl_move rfl rfl (wl_move rfl rfl ?_))))
 first | refine wl_lenL Tryz.underlying32 rfl rfl ?_ | refine wl_lenO 0 hS3 Tryz.underlying32 rfl rfl rfl ?_
 refine wl_lss rfl rfl rfl ?_
 refine wl_nil (qs_seq ?_)
 refine wc_condD rfl (fun h4 => ?_) (fun h4 => ?_)
 ·obtain ⟨x, hx⟩ : ∃ x, ch[i]? = some x := ⟨_, List.getElem?_eq_getElem (by omega)⟩
  obtain ⟨cb, co, rfl, _⟩ := (hC.sat hS3 1 rfl).get hx
  refine wc_skip (qs_seq (wc_seq (wc_block (wc_seq (wc_region (wl_assign rfl rfl (wl_nil (qs_seq ?_))))))))
  refine wc_mid (fun E0 W0 => ∃ (k : Nat), E0 = [(1, .slice (some ⟨cb, co, none⟩) ch.length cc), (5, .slice oa o.length oc), (6, intV (i : Int)), (7, intV (k : Int))] ∧ Sat W0 [rowT jbC (.slice oa o.length oc) o, F] ∧ (k ≤ o.length) ∧ (∀ m b, m < k → o[m]? = some b → b.n < x.n) ∧ (∀ b, o[k]? = some b → x.n ≤ b.n)) ?_ ?_
  ·refine wc_block ?_
   refine wc_loop (fun K0 E0 W0 => ∃ (k : Nat), K0 = o.length - k ∧ E0 = [(1, .slice (some ⟨cb, co, none⟩) ch.length cc), (5, .slice oa o.length oc), (6, intV (i : Int)), (7, intV (k : Int))] ∧ Sat W0 [rowT jbC (.slice oa o.length oc) o, F] ∧ (k ≤ o.length) ∧ (∀ m b, m < k → o[m]? = some b → b.n < x.n)) (L0 := [(1, _), (5, _), (6, _), (7, _)]) (o.length - 0) (.cons rfl (.cons rfl (.cons rfl (.cons rfl .nil)))) ⟨0, rfl, rfl, hS3, by omega, by omega⟩ ?_
   rintro _ _ w6 ⟨k, rfl, rfl, hS6, hk, hlt⟩
   refine wc_seq (wc_seq ?_)
   have hS7 := hS6.drew
   refine wc_draw [0, 1, 2, 3, 4, 5, 6, 7, 8, 9, 10, 11, 12, 13, 14, 15, 16] [] mix (by kernel_rfl) ?_
   refine vc_p rfl rfl rfl (fun _ => (ev_move rfl)) ?_
   refine vc_p rfl rfl rfl (fun _ => (ev_move rfl)) ?_
   refine vc_p rfl rfl rfl (fun _ => (ev_lenL Tryz.underlying32 rfl)) ?_
   refine vc_p rfl rfl rfl (fun _ => (ev_lss rfl rfl)) ?_
   refine vc_p rfl rfl rfl (fun _ => (ev_move rfl)) ?_
   refine vc_splitD 22 rfl (fun h8 => ?_) (fun h8 => ?_)
   ·obtain ⟨ob, oc3, hq3, _⟩ := hS7.own_at 0 rfl (by omega)
    cases hq3
    obtain ⟨y, hy⟩ : ∃ y, o[k]? = some y := ⟨_, List.getElem?_eq_getElem (by omega)⟩
    refine vc_p rfl rfl (guard_yes rfl rfl (decide_eq_true h8)) (fun _ => (Ev.gd (ev_move rfl))) ?_
    refine vc_p rfl rfl (guard_yes rfl rfl (decide_eq_true h8)) (fun _ => (Ev.gd (ev_move rfl))) ?_
    refine vc_p rfl rfl (guard_yes rfl rfl (decide_eq_true h8)) (fun _ => (Ev.gd (ev_indexAddr k rfl rfl (by first | rfl | omega) (by first | omega | exact (List.getElem?_eq_some_iff.1 hy).1) es_32))) ?_
    refine vc_p rfl rfl (guard_yes rfl rfl (decide_eq_true h8)) (fun _ => (Ev.gd (ev_fieldAddr rfl fo_34_0))) ?_
    refine vc_q rfl rfl (guard_yes rfl rfl (decide_eq_true h8)) (Ev.gd (ev_rowLoad0 jbC 0 k 0 hS7 rfl hy ag_3 rfl rfl)) ?_
    refine vc_p rfl rfl (guard_yes rfl rfl (decide_eq_true h8)) (fun _ => (Ev.gd (ev_move rfl))) ?_
    refine vc_p rfl rfl (guard_yes rfl rfl (decide_eq_true h8)) (fun _ => (Ev.gd (ev_move rfl))) ?_
    refine vc_p rfl rfl (guard_yes rfl rfl (decide_eq_true h8)) (fun _ => (Ev.gd (ev_indexAddr i rfl rfl (by first | rfl | omega) (by omega) es_32))) ?_
    refine vc_p rfl rfl (guard_yes rfl rfl (decide_eq_true h8)) (fun _ => (Ev.gd (ev_fieldAddr rfl fo_34_0))) ?_
    refine vc_q rfl rfl (guard_yes rfl rfl (decide_eq_true h8)) (Ev.gd (ev_load rfl ag_3 (((hC.sat hS7 1 rfl).at_ hx) 0 _ rfl))) ?_
    refine vc_p rfl rfl (guard_yes rfl rfl (decide_eq_true h8)) (fun _ => (Ev.gd (ev_lss rfl rfl))) ?_
    refine vc_p rfl rfl rfl (fun _ => (ev_pickT rfl (decide_eq_true h8) rfl)) ?_
    refine VC.nil (qs_seq ?_)
    refine wc_sub (L' := [(34, _), (1, _), (5, _), (6, _), (7, _)]) (.cons rfl (.cons rfl (.cons rfl (.cons rfl (.cons rfl .nil))))) ?_
    refine wc_condD rfl (fun h9 => ?_) (fun h9 => ?_)
    ·have hyx : y.n < x.n := by assumption
     refine wc_skip (qs_seq (wc_block (wc_region (wl_move rfl rfl ?_))))
     refine wl_add rfl rfl (by first | omega | (simp; omega)) (by first | omega | (simp; omega)) rfl ?_
     refine wl_assign rfl rfl (wl_nil (qs_block_normal ?_))
     exact qs_round (L1 := [(1, _), (5, _), (6, _), (7, intV ((k + 1 : Nat) : Int))]) (.cons rfl (.cons rfl (.cons rfl (.cons rfl .nil)))) (k1 := o.length - (k + 1)) (by omega) ⟨k + 1, rfl, rfl, hS7.pick [0, 1] rfl, by omega, fun m b hm hb => by by_cases e : m = k; (subst e; rw [hy] at hb; cases hb; exact hyx); exact hlt m b (by omega) hb⟩
    refine wc_exit (qs_then_exit (qs_then_exit (qs_block_exit ?_)))
    exact qs_mid (.cons rfl (.cons rfl (.cons rfl (.cons rfl .nil)))) ⟨k, rfl, hS7.pick [0, 1] rfl, by omega, hlt, fun b hb => by rw [hy] at hb; cases hb; omega⟩
   refine vc_not rfl rfl (guard_no rfl rfl (decide_eq_false h8)) ?_
   refine vc_not rfl rfl (guard_no rfl rfl (decide_eq_false h8)) ?_
   refine vc_not rfl rfl (guard_no rfl rfl (decide_eq_false h8)) ?_
   refine vc_not rfl rfl (guard_no rfl rfl (decide_eq_false h8)) ?_
   refine vc_not rfl rfl (guard_no rfl rfl (decide_eq_false h8)) ?_
   refine vc_not rfl rfl (guard_no rfl rfl (decide_eq_false h8)) ?_
   refine vc_not rfl rfl (guard_no rfl rfl (decide_eq_false h8)) ?_
   refine vc_not rfl rfl (guard_no rfl rfl (decide_eq_false h8)) ?_
   refine vc_not rfl rfl (guard_no rfl rfl (decide_eq_false h8)) ?_
   refine vc_not rfl rfl (guard_no rfl rfl (decide_eq_false h8)) ?_
   refine vc_not rfl rfl (guard_no rfl rfl (decide_eq_false h8)) ?_
   refine vc_p rfl rfl rfl (fun _ => (ev_pickF rfl (decide_eq_false h8) rfl)) ?_
   refine VC.nil (qs_seq ?_)
   refine wc_sub (L' := [(34, _), (1, _), (5, _), (6, _), (7, _)]) (.cons rfl (.cons rfl (.cons rfl (.cons rfl (.cons rfl .nil))))) ?_
   refine wc_condF rfl ?_
   refine wc_exit (qs_then_exit (qs_then_exit (qs_block_exit ?_)))
   exact qs_mid (.cons rfl (.cons rfl (.cons rfl (.cons rfl .nil)))) ⟨k, rfl, hS7.pick [0, 1] rfl, by omega, hlt, fun b hb => by rw [List.getElem?_eq_none (by omega)] at hb; cases hb⟩
  rintro _ w5 ⟨k, rfl, hS5, hk, hlt, hge⟩
  refine wc_seq (wc_region (wl_move rfl rfl (wl_move rfl rfl ?_)))
  have hv8 : Ent (rowT jbC (.slice oa o.length oc) o) (RdL jbC (viewV 2 (.slice oa o.length oc) k o.length) (o.drop k)) := fun h => by have q := RdL.view (C := jbC) (A := k) (B := o.length) (ent_row (C := jbC) (by omega) h) hoc (by omega) (by omega); rw [List.take_of_length_le (Nat.le_refl _)] at q; exact q
  refine wl_view k o.length Tryz.underlying32 sz_34 rfl (bndS k _ rfl rfl) (bndN _) (by omega) (by omega) rfl ?_
  refine wl_assign rfl rfl (wl_nil (qs_seq ?_))
  refine wc_mid (fun E0 W0 => ∃ (j : Nat) (rv : Value), E0 = [(1, .slice (some ⟨cb, co, none⟩) ch.length cc), (5, .slice oa o.length oc), (6, intV (i : Int)), (7, intV (k : Int)), (8, rv)] ∧ Sat W0 [rowT jbC (.slice oa o.length oc) o, F] ∧ ((j = k + 1 ∧ ∃ b, o[k]? = some b ∧ b.n = x.n) ∨ (j = k ∧ ∀ b, o[k]? = some b → b.n ≠ x.n)) ∧ (Ent (rowT jbC (.slice oa o.length oc) o) (RdL jbC rv (o.drop j)))) ?_ ?_
  ·refine wc_seq (wc_region (wl_move rfl rfl ?_))
   refine wl_lenL Tryz.underlying32 rfl rfl ?_
   refine wl_gtr rfl rfl rfl ?_
   refine wl_nil (qs_seq ?_)
   refine wc_sub (L' := [(42, _), (8, _), (1, _), (5, _), (6, _), (7, _)]) (.cons rfl (.cons rfl (.cons rfl (.cons rfl (.cons rfl (.cons rfl .nil)))))) ?_
   refine wc_condD rfl (fun h11 => ?_) (fun h11 => ?_)
   ·obtain ⟨ob, oc3, hq3, _⟩ := hS5.own_at 0 rfl (by omega)
    cases hq3
    obtain ⟨y, hy⟩ : ∃ y, o[k]? = some y := ⟨_, List.getElem?_eq_getElem (by omega)⟩
    have hvs : viewV 2 (.slice (some ⟨ob, 0, none⟩) o.length oc) k o.length = .slice (some ⟨ob, 0 + k * 2, none⟩) (o.length - k) (oc - k) := view_some (by omega)
    rw [hvs] at hv8 ⊢
    refine wc_seq ?_
    have hS12 := hS5.drew
    refine wc_draw [0, 1, 2, 3, 4, 5, 6, 7, 8, 9] [] mix (by kernel_rfl) ?_
    refine vc_p rfl rfl rfl (fun _ => (ev_move rfl)) ?_
    refine vc_p rfl rfl rfl (fun _ => (ev_indexAddr 0 rfl rfl (by first | rfl | omega) (by omega) es_32)) ?_
    refine vc_p rfl rfl rfl (fun _ => (ev_fieldAddr rfl fo_34_0)) ?_
    refine vc_q rfl rfl rfl (ev_load rfl ag_3 (Sat.ocell hS12 0 rfl rfl (show (jbC.cells o)[0 + k * 2 + 0 * 2 + 0]? = some (intV y.n) from by rw [show 0 + k * 2 + 0 * 2 + 0 = k * 2 + 0 by omega]; exact RowC.cells_get (C := jbC) hy (o := 0) rfl))) ?_
    refine vc_p rfl rfl rfl (fun _ => (ev_move rfl)) ?_
    refine vc_p rfl rfl rfl (fun _ => (ev_move rfl)) ?_
    refine vc_p rfl rfl rfl (fun _ => (ev_indexAddr i rfl rfl (by first | rfl | omega) (by omega) es_32)) ?_
    refine vc_p rfl rfl rfl (fun _ => (ev_fieldAddr rfl fo_34_0)) ?_
    refine vc_q rfl rfl rfl (ev_load rfl ag_3 (((hC.sat hS12 1 rfl).at_ hx) 0 _ rfl)) ?_
    refine vc_p rfl rfl rfl (fun _ => (ev_eql rfl rfl)) ?_
    refine VC.nil (qs_seq ?_)
    refine wc_sub (L' := [(52, _), (8, _), (1, _), (5, _), (6, _), (7, _)]) (.cons rfl (.cons rfl (.cons rfl (.cons rfl (.cons rfl (.cons rfl .nil)))))) ?_
    refine wc_condD rfl (fun h13 => ?_) (fun h13 => ?_)
    ·have hyx : y.n = x.n := h13
     refine wc_region (wl_move rfl rfl ?_)
     have hv9 : Ent (rowT jbC (.slice (some ⟨ob, 0, none⟩) o.length oc) o) (RdL jbC (viewV 2 (.slice (some ⟨ob, 0 + k * 2, none⟩) (o.length - k) (oc - k)) 1 (o.length - k)) (o.drop (k + 1))) := fun h => by have q := RdL.view (C := jbC) (A := 1) (B := o.length - k) (hv8 h) (by omega) (by omega) (by rw [List.length_drop]; omega); rw [List.take_of_length_le (by rw [List.length_drop]; omega), List.drop_drop] at q; exact q
     refine wl_view 1 (o.length - k) Tryz.underlying32 sz_34 rfl (bndS 1 _ rfl rfl) (bndN _) (by omega) (by omega) rfl ?_
     refine wl_assign rfl rfl (wl_nil ?_)
     exact qs_mid (.cons rfl (.cons rfl (.cons rfl (.cons rfl (.cons rfl .nil))))) ⟨_, _, rfl, hS12.pick [0, 1] rfl, .inl ⟨rfl, y, hy, hyx⟩, hv9⟩
    have hyx : y.n ≠ x.n := h13
    refine wc_skip ?_
    exact qs_mid (.cons rfl (.cons rfl (.cons rfl (.cons rfl (.cons rfl .nil))))) ⟨_, _, rfl, hS12.pick [0, 1] rfl, .inr ⟨rfl, fun b hb => by rw [hy] at hb; cases hb; exact hyx⟩, hv8⟩
   refine wc_skip ?_
   exact qs_mid (.cons rfl (.cons rfl (.cons rfl (.cons rfl (.cons rfl .nil))))) ⟨_, _, rfl, hS5.pick [0, 1] rfl, .inr ⟨rfl, fun b hb => by rw [List.getElem?_eq_none (by omega)] at hb; cases hb⟩, hv8⟩
  rintro _ w10 ⟨j, rv, rfl, hS10, hj, hrv⟩
  refine wc_seq (wc_region (wl_move rfl rfl (wl_move rfl rfl ?_)))
  refine wl_indexAddr i rfl rfl (by first | rfl | omega) (by omega) es_32 rfl ?_
  refine wl_fieldAddr rfl fo_34_1 rfl ?_
  refine wl_load rfl ag_9 (((hC.sat hS10 1 rfl).at_ hx) 1 _ rfl) rfl ?_
  refine wl_eqlS rfl rfl rfl ?_
  refine wl_nil (qs_seq ?_)
  refine wc_sub (L' := [(60, _), (1, _), (5, _), (6, _), (7, _), (8, _)]) (.cons rfl (.cons rfl (.cons rfl (.cons rfl (.cons rfl (.cons rfl .nil)))))) ?_
  refine wc_condD rfl (fun h14 => ?_) (fun h14 => ?_)
  ·have hxd : x.d = [] := h14
   refine wc_region ?_
   refine wl_rowBuild jbC [] hS10 rfl Tryz.underlying32 ifz_34 rfl rfl rfl rfl (by first | rfl | simp [RowC.cells, fillL, splice]) rfl ?_
   intro b15 w15 hS15
   clear hS10
   refine wl_move rfl rfl (wl_move rfl rfl ?_)
   refine wl_view 0 k Tryz.underlying32 sz_34 rfl (bndN _) (bndS k _ rfl rfl) (by omega) (by omega) rfl ?_
   refine wl_rowApp jbC 0 hS15 rfl rfl rfl (RdL.view (C := jbC) (A := 0) (B := k) (hS15.rd 1 rfl (by omega)) hoc (by omega) (by omega)) Tryz.underlying32 Tryz.underlying32 (by intro k hk; cases hk) ifo_34 rfl (by simp only [List.length_append, List.length_cons, List.length_nil, List.length_take, List.length_drop]; omega) rfl (by simp only [List.length_append, List.length_cons, List.length_nil, List.length_take, List.length_drop]; omega) ?_
   intro v16 w16 hS16; dsimp only [List.set] at hS16
   clear hS15
   have h1v16 : v16.oneCell' = true := hS16.own_one 0 rfl
   refine wl_move rfl rfl ?_
   refine wl_rowApp jbC 0 hS16 rfl rfl rfl (hrv.sat hS16 1 rfl) Tryz.underlying32 Tryz.underlying32 (by intro k hk; cases hk) ifo_34 rfl (by simp only [List.length_append, List.length_cons, List.length_nil, List.length_take, List.length_drop]; omega) rfl (by simp only [List.length_append, List.length_cons, List.length_nil, List.length_take, List.length_drop]; omega) ?_
   intro v17 w17 hS17; dsimp only [List.set] at hS17
   clear hS16
   have h1v17 : v17.oneCell' = true := hS17.own_one 0 rfl
   refine wl_assign rfl rfl (wl_nil (qs_block_normal (qs_seq ?_)))
   refine wc_sub (L' := [(5, _), (1, _), (6, _)]) (.cons rfl (.cons rfl (.cons rfl .nil))) ?_
   refine wc_region (wl_move rfl rfl ?_)
   refine wl_add rfl rfl (by first | omega | (simp; omega)) (by first | omega | (simp; omega)) rfl ?_
   refine wl_assign rfl rfl (wl_nil ?_)
   have hI := insK_a (o := o) (x := x) (k := k) (j := j) hxd
   rw [hI] at hS17
   obtain ⟨oa2, oc2, rfl, hoc2, _⟩ := hS17.own_shape 0 rfl
   have hxr := hr x (List.mem_of_getElem? hx)
   have hnx : insK o x k j = listB (withB B (ch.take (i + 1))) := by subst ho; rw [withB_snoc hx]; exact insK_ok hxr hlt hge hj
   exact qs_round (L1 := [(1, _), (5, _), (6, intV ((i + 1 : Nat) : Int))]) (.cons rfl (.cons rfl (.cons rfl .nil))) (k1 := ch.length - (i + 1)) (by omega) ⟨i + 1, _, _, insK o x k j, rfl, rfl, hS17.pick [0, 2] rfl, by omega, hnx, hoc2⟩
  have hxd : ¬ x.d = [] := h14
  have hS18 := hS10.drew
  refine wc_draws mix ?_
  refine dr_split 0 9 rfl ?_ ?_
  ·refine dr_split 4 9 rfl ?_ ?_
   ·refine dr_vc (sp := [0, 4, 9, 10, 12]) [1, 2, 3, 5, 6, 7, 8, 11, 0, 4, 9, 10, 12, 13] (by kernel_rfl) ?_
    refine vc_p rfl rfl rfl (fun _ => (ev_move rfl)) ?_
    refine vc_p rfl rfl rfl (fun _ => (ev_move rfl)) ?_
    refine vc_p rfl rfl rfl (fun _ => (ev_view 0 k Tryz.underlying32 sz_34 rfl (bndN _) (bndS k _ rfl rfl) (by omega) (by omega))) ?_
    refine vc_p rfl rfl rfl (fun _ => (ev_move rfl)) ?_
    refine vc_p rfl rfl rfl (fun _ => (ev_move rfl)) ?_
    refine vc_p rfl rfl rfl (fun _ => (ev_indexAddr i rfl rfl (by first | rfl | omega) (by omega) es_32)) ?_
    refine vc_q rfl rfl rfl (ev_loadAt rfl ag_34 sz_34 (vs := bV x) ((hC.sat hS18 1 rfl).at_ hx)) ?_
    refine vc_p rfl rfl rfl (fun _ => (ev_move rfl)) ?_
    refine vc_s rfl rfl rfl rfl rfl rfl ?_
    refine wl_rowBuild jbC [] hS18 rfl Tryz.underlying32 ifz_34 rfl rfl rfl rfl (by first | rfl | simp [RowC.cells, fillL, splice]) rfl ?_
    intro b19 w19 hS19
    clear hS18
    refine vc_e (.cons (.inl ⟨rfl, (ev_loadAt rfl ag_34 sz_34 (vs := bV x) ((hC.sat hS19 2 rfl).at_ hx))⟩) .nil) ?_
    refine vc_s rfl rfl rfl rfl rfl rfl ?_
    refine wl_rowApp jbC 0 hS19 rfl rfl rfl (RdL.view (C := jbC) (A := 0) (B := k) (hS19.rd 1 rfl (by omega)) hoc (by omega) (by omega)) Tryz.underlying32 Tryz.underlying32 (by intro k hk; cases hk) ifo_34 rfl (by simp only [List.length_append, List.length_cons, List.length_nil, List.length_take, List.length_drop]; omega) rfl (by simp only [List.length_append, List.length_cons, List.length_nil, List.length_take, List.length_drop]; omega) ?_
    intro v20 w20 hS20; dsimp only [List.set] at hS20
    clear hS19
    have h1v20 : v20.oneCell' = true := hS20.own_one 0 rfl
    refine vc_e (.cons (.inl ⟨rfl, (ev_loadAt rfl ag_34 sz_34 (vs := bV x) ((hC.sat hS20 2 rfl).at_ hx))⟩) .nil) ?_
    refine vc_s rfl rfl rfl rfl rfl rfl ?_
    refine wl_rowBuild jbC [x] hS20 rfl Tryz.underlying32 ifz_34 rfl rfl rfl rfl (by first | rfl | simp [RowC.cells, fillL, splice]) rfl ?_
    intro b21 w21 hS21
    clear hS20
    refine vc_e (.skip (by kernel_rfl) .nil) ?_
    refine vc_s rfl rfl rfl rfl rfl rfl ?_
    refine wl_rowApp jbC 1 hS21 rfl rfl rfl (hS21.rd 0 rfl (by simp)) Tryz.underlying32 Tryz.underlying32 (by intro k hk; cases hk) ifo_34 rfl (by simp only [List.length_append, List.length_cons, List.length_nil, List.length_take, List.length_drop]; omega) rfl (by simp only [List.length_append, List.length_cons, List.length_nil, List.length_take, List.length_drop]; omega) ?_
    intro v22 w22 hS22; dsimp only [List.set] at hS22
    clear hS21
    have h1v22 : v22.oneCell' = true := hS22.own_one 1 rfl
    refine vc_e (.skip (by kernel_rfl) .nil) ?_
    refine vc_s rfl rfl rfl rfl rfl rfl ?_
    refine wl_rowApp jbC 1 hS22 rfl rfl rfl (hrv.sat hS22 2 rfl) Tryz.underlying32 Tryz.underlying32 (by intro k hk; cases hk) ifo_34 rfl (by simp only [List.length_append, List.length_cons, List.length_nil, List.length_take, List.length_drop]; omega) rfl (by simp only [List.length_append, List.length_cons, List.length_nil, List.length_take, List.length_drop]; omega) ?_
    intro v23 w23 hS23; dsimp only [List.set] at hS23
    clear hS22
    have h1v23 : v23.oneCell' = true := hS23.own_one 1 rfl
    refine vc_e (.skip (by kernel_rfl) .nil) ?_
    refine vc_p rfl rfl rfl (fun _ => (ev_assign rfl)) ?_
    refine VC.nil (qs_block_normal (qs_seq ?_))
    refine wc_sub (L' := [(5, _), (1, _), (6, _)]) (.cons rfl (.cons rfl (.cons rfl .nil))) ?_
    refine wc_region (wl_move rfl rfl ?_)
    refine wl_add rfl rfl (by first | omega | (simp; omega)) (by first | omega | (simp; omega)) rfl ?_
    refine wl_assign rfl rfl (wl_nil ?_)
    have hI := insK_b (o := o) (x := x) (k := k) (j := j) hxd
    rw [hI] at hS23
    obtain ⟨oa2, oc2, rfl, hoc2, _⟩ := hS23.own_shape 1 rfl
    have hxr := hr x (List.mem_of_getElem? hx)
    have hnx : insK o x k j = listB (withB B (ch.take (i + 1))) := by subst ho; rw [withB_snoc hx]; exact insK_ok hxr hlt hge hj
    exact qs_round (L1 := [(1, _), (5, _), (6, intV ((i + 1 : Nat) : Int))]) (.cons rfl (.cons rfl (.cons rfl .nil))) (k1 := ch.length - (i + 1)) (by omega) ⟨i + 1, _, _, insK o x k j, rfl, rfl, hS23.pick [1, 3] rfl, by omega, hnx, hoc2⟩
   refine dr_vc (sp := [0, 4, 9, 10, 12]) [1, 2, 3, 5, 6, 7, 8, 11, 0, 9, 4, 10, 12, 13] (by kernel_rfl) ?_
   refine vc_p rfl rfl rfl (fun _ => (ev_move rfl)) ?_
   refine vc_p rfl rfl rfl (fun _ => (ev_move rfl)) ?_
   refine vc_p rfl rfl rfl (fun _ => (ev_view 0 k Tryz.underlying32 sz_34 rfl (bndN _) (bndS k _ rfl rfl) (by omega) (by omega))) ?_
   refine vc_p rfl rfl rfl (fun _ => (ev_move rfl)) ?_
   refine vc_p rfl rfl rfl (fun _ => (ev_move rfl)) ?_
   refine vc_p rfl rfl rfl (fun _ => (ev_indexAddr i rfl rfl (by first | rfl | omega) (by omega) es_32)) ?_
   refine vc_q rfl rfl rfl (ev_loadAt rfl ag_34 sz_34 (vs := bV x) ((hC.sat hS18 1 rfl).at_ hx)) ?_
   refine vc_p rfl rfl rfl (fun _ => (ev_move rfl)) ?_
   refine vc_s rfl rfl rfl rfl rfl rfl ?_
   refine wl_rowBuild jbC [] hS18 rfl Tryz.underlying32 ifz_34 rfl rfl rfl rfl (by first | rfl | simp [RowC.cells, fillL, splice]) rfl ?_
   intro b24 w24 hS24
   clear hS18
   refine vc_e (.cons (.inl ⟨rfl, (ev_loadAt rfl ag_34 sz_34 (vs := bV x) ((hC.sat hS24 2 rfl).at_ hx))⟩) .nil) ?_
   refine vc_s rfl rfl rfl rfl rfl rfl ?_
   refine wl_rowBuild jbC [x] hS24 rfl Tryz.underlying32 ifz_34 rfl rfl rfl rfl (by first | rfl | simp [RowC.cells, fillL, splice]) rfl ?_
   intro b25 w25 hS25
   clear hS24
   refine vc_e (.skip (by kernel_rfl) .nil) ?_
   refine vc_s rfl rfl rfl rfl rfl rfl ?_
   refine wl_rowApp jbC 1 hS25 rfl rfl rfl (RdL.view (C := jbC) (A := 0) (B := k) (hS25.rd 2 rfl (by omega)) hoc (by omega) (by omega)) Tryz.underlying32 Tryz.underlying32 (by intro k hk; cases hk) ifo_34 rfl (by simp only [List.length_append, List.length_cons, List.length_nil, List.length_take, List.length_drop]; omega) rfl (by simp only [List.length_append, List.length_cons, List.length_nil, List.length_take, List.length_drop]; omega) ?_
   intro v26 w26 hS26; dsimp only [List.set] at hS26
   clear hS25
   have h1v26 : v26.oneCell' = true := hS26.own_one 1 rfl
   refine vc_e (.cons (.inl ⟨rfl, (ev_loadAt rfl ag_34 sz_34 (vs := bV x) ((hC.sat hS26 3 rfl).at_ hx))⟩) .nil) ?_
   refine vc_s rfl rfl rfl rfl rfl rfl ?_
   refine wl_rowApp jbC 1 hS26 rfl rfl rfl (hS26.rd 0 rfl (by simp)) Tryz.underlying32 Tryz.underlying32 (by intro k hk; cases hk) ifo_34 rfl (by simp only [List.length_append, List.length_cons, List.length_nil, List.length_take, List.length_drop]; omega) rfl (by simp only [List.length_append, List.length_cons, List.length_nil, List.length_take, List.length_drop]; omega) ?_
   intro v27 w27 hS27; dsimp only [List.set] at hS27
   clear hS26
   have h1v27 : v27.oneCell' = true := hS27.own_one 1 rfl
   refine vc_e (.skip (by kernel_rfl) .nil) ?_
   refine vc_s rfl rfl rfl rfl rfl rfl ?_
   refine wl_rowApp jbC 1 hS27 rfl rfl rfl (hrv.sat hS27 2 rfl) Tryz.underlying32 Tryz.underlying32 (by intro k hk; cases hk) ifo_34 rfl (by simp only [List.length_append, List.length_cons, List.length_nil, List.length_take, List.length_drop]; omega) rfl (by simp only [List.length_append, List.length_cons, List.length_nil, List.length_take, List.length_drop]; omega) ?_
   intro v28 w28 hS28; dsimp only [List.set] at hS28
   clear hS27
   have h1v28 : v28.oneCell' = true := hS28.own_one 1 rfl
   refine vc_e (.skip (by kernel_rfl) .nil) ?_
   refine vc_p rfl rfl rfl (fun _ => (ev_assign rfl)) ?_
   refine VC.nil (qs_block_normal (qs_seq ?_))
   refine wc_sub (L' := [(5, _), (1, _), (6, _)]) (.cons rfl (.cons rfl (.cons rfl .nil))) ?_
   refine wc_region (wl_move rfl rfl ?_)
   refine wl_add rfl rfl (by first | omega | (simp; omega)) (by first | omega | (simp; omega)) rfl ?_
   refine wl_assign rfl rfl (wl_nil ?_)
   have hI := insK_b (o := o) (x := x) (k := k) (j := j) hxd
   rw [hI] at hS28
   obtain ⟨oa2, oc2, rfl, hoc2, _⟩ := hS28.own_shape 1 rfl
   have hxr := hr x (List.mem_of_getElem? hx)
   have hnx : insK o x k j = listB (withB B (ch.take (i + 1))) := by subst ho; rw [withB_snoc hx]; exact insK_ok hxr hlt hge hj
   exact qs_round (L1 := [(1, _), (5, _), (6, intV ((i + 1 : Nat) : Int))]) (.cons rfl (.cons rfl (.cons rfl .nil))) (k1 := ch.length - (i + 1)) (by omega) ⟨i + 1, _, _, insK o x k j, rfl, rfl, hS28.pick [1, 3] rfl, by omega, hnx, hoc2⟩
  refine dr_vc (sp := [0, 4, 9, 10, 12]) [1, 2, 3, 5, 6, 7, 8, 11, 9, 0, 4, 10, 12, 13] (by kernel_rfl) ?_
  refine vc_p rfl rfl rfl (fun _ => (ev_move rfl)) ?_
  refine vc_p rfl rfl rfl (fun _ => (ev_move rfl)) ?_
  refine vc_p rfl rfl rfl (fun _ => (ev_view 0 k Tryz.underlying32 sz_34 rfl (bndN _) (bndS k _ rfl rfl) (by omega) (by omega))) ?_
  refine vc_p rfl rfl rfl (fun _ => (ev_move rfl)) ?_
  refine vc_p rfl rfl rfl (fun _ => (ev_move rfl)) ?_
  refine vc_p rfl rfl rfl (fun _ => (ev_indexAddr i rfl rfl (by first | rfl | omega) (by omega) es_32)) ?_
  refine vc_q rfl rfl rfl (ev_loadAt rfl ag_34 sz_34 (vs := bV x) ((hC.sat hS18 1 rfl).at_ hx)) ?_
  refine vc_p rfl rfl rfl (fun _ => (ev_move rfl)) ?_
  refine vc_s rfl rfl rfl rfl rfl rfl ?_
  refine wl_rowBuild jbC [x] hS18 rfl Tryz.underlying32 ifz_34 rfl rfl rfl rfl (by first | rfl | simp [RowC.cells, fillL, splice]) rfl ?_
  intro b29 w29 hS29
  clear hS18
  refine vc_e (.skip (by kernel_rfl) .nil) ?_
  refine vc_s rfl rfl rfl rfl rfl rfl ?_
  refine wl_rowBuild jbC [] hS29 rfl Tryz.underlying32 ifz_34 rfl rfl rfl rfl (by first | rfl | simp [RowC.cells, fillL, splice]) rfl ?_
  intro b30 w30 hS30
  clear hS29
  refine vc_e (.cons (.inl ⟨rfl, (ev_loadAt rfl ag_34 sz_34 (vs := bV x) ((hC.sat hS30 3 rfl).at_ hx))⟩) .nil) ?_
  refine vc_s rfl rfl rfl rfl rfl rfl ?_
  refine wl_rowApp jbC 0 hS30 rfl rfl rfl (RdL.view (C := jbC) (A := 0) (B := k) (hS30.rd 2 rfl (by omega)) hoc (by omega) (by omega)) Tryz.underlying32 Tryz.underlying32 (by intro k hk; cases hk) ifo_34 rfl (by simp only [List.length_append, List.length_cons, List.length_nil, List.length_take, List.length_drop]; omega) rfl (by simp only [List.length_append, List.length_cons, List.length_nil, List.length_take, List.length_drop]; omega) ?_
  intro v31 w31 hS31; dsimp only [List.set] at hS31
  clear hS30
  have h1v31 : v31.oneCell' = true := hS31.own_one 0 rfl
  refine vc_e (.cons (.inl ⟨rfl, (ev_loadAt rfl ag_34 sz_34 (vs := bV x) ((hC.sat hS31 3 rfl).at_ hx))⟩) .nil) ?_
  refine vc_s rfl rfl rfl rfl rfl rfl ?_
  refine wl_rowApp jbC 0 hS31 rfl rfl rfl (hS31.rd 1 rfl (by simp)) Tryz.underlying32 Tryz.underlying32 (by intro k hk; cases hk) ifo_34 rfl (by simp only [List.length_append, List.length_cons, List.length_nil, List.length_take, List.length_drop]; omega) rfl (by simp only [List.length_append, List.length_cons, List.length_nil, List.length_take, List.length_drop]; omega) ?_
  intro v32 w32 hS32; dsimp only [List.set] at hS32
  clear hS31
  have h1v32 : v32.oneCell' = true := hS32.own_one 0 rfl
  refine vc_e (.skip (by kernel_rfl) .nil) ?_
  refine vc_s rfl rfl rfl rfl rfl rfl ?_
  refine wl_rowApp jbC 0 hS32 rfl rfl rfl (hrv.sat hS32 2 rfl) Tryz.underlying32 Tryz.underlying32 (by intro k hk; cases hk) ifo_34 rfl (by simp only [List.length_append, List.length_cons, List.length_nil, List.length_take, List.length_drop]; omega) rfl (by simp only [List.length_append, List.length_cons, List.length_nil, List.length_take, List.length_drop]; omega) ?_
  intro v33 w33 hS33; dsimp only [List.set] at hS33
  clear hS32
  have h1v33 : v33.oneCell' = true := hS33.own_one 0 rfl
  refine vc_e (.skip (by kernel_rfl) .nil) ?_
  refine vc_p rfl rfl rfl (fun _ => (ev_assign rfl)) ?_
  refine VC.nil (qs_block_normal (qs_seq ?_))
  refine wc_sub (L' := [(5, _), (1, _), (6, _)]) (.cons rfl (.cons rfl (.cons rfl .nil))) ?_
  refine wc_region (wl_move rfl rfl ?_)
  refine wl_add rfl rfl (by first | omega | (simp; omega)) (by first | omega | (simp; omega)) rfl ?_
  refine wl_assign rfl rfl (wl_nil ?_)
  have hI := insK_b (o := o) (x := x) (k := k) (j := j) hxd
  rw [hI] at hS33
  obtain ⟨oa2, oc2, rfl, hoc2, _⟩ := hS33.own_shape 0 rfl
  have hxr := hr x (List.mem_of_getElem? hx)
  have hnx : insK o x k j = listB (withB B (ch.take (i + 1))) := by subst ho; rw [withB_snoc hx]; exact insK_ok hxr hlt hge hj
  exact qs_round (L1 := [(1, _), (5, _), (6, intV ((i + 1 : Nat) : Int))]) (.cons rfl (.cons rfl (.cons rfl .nil))) (k1 := ch.length - (i + 1)) (by omega) ⟨i + 1, _, _, insK o x k j, rfl, rfl, hS33.pick [0, 3] rfl, by omega, hnx, hoc2⟩
 refine wc_exit (qs_then_exit (qs_then_exit (qs_block_exit (qs_seq (wc_seq (wc_region (wl_move rfl rfl (wl_assign rfl rfl (wl_nil (qs_seq (wc_ret ?_)))))))))))
 refine fin1 (.inr rfl) rfl rfl ?_
 exact ⟨_, rfl, by rw [List.take_of_length_le (by omega)] at ho; rw [← ho]; exact hS3.pick [0, 1] rfl⟩
end Go.Proofs.YtfmkodmmbgibgaaGreatDoor
/- journal: openings and commits for laws; few, small -/
namespace Go.Proofs.YtfmkodmmbgibgaaGreatDoor
open Go.RowKit M
set_option linter.unusedVariables false
theorem Sta.lv {D : DS} {f : Int} {C : CS} {B : Int → Bytes} (h : Sta D f C B) : Lv D f B [] :=
  ⟨h.up, C, h.cell.widen (fun s v hv => .inl ⟨hv, .inl h.home⟩), h.firm⟩
theorem lopenA {w : World} {dp : Nat} {D : DS} {F : Th} (hS : Sat w [dT dp D, F]) (hG : Ent F WireG) (hO : Ent F (Glob 0)) {f : Int} {A : Int → Bytes} {l : List Blk} (hf : 0 ≤ f ∧ f ≤ 13) (hr : rightJ l = true) (hA : Ran A) (h : Lv D f A l) :
    Calls Tryz.prog 9 #[ptrV dp 0, intV f] w (Ret fun v w' => (∃ jp D' C B, v = .tuple #[ptrV jp 0, intV 0] ∧ (B = A ∨ B = withB A l) ∧ Sta D' f C B ∧ Ran B ∧ (D.armed = 0 → D'.armed = 0) ∧ Sat w' [jT jp dp ⟨f, C, B, false⟩, dT dp D', F]) ∨ (D.armed ≠ 0 ∧ ∃ D', v = .tuple #[.pointer none, intV 9] ∧ Dw D' f A l ∧ Sat w' [dT dp D', F])) := by
  refine (jopen_sp hS hG hO f).mono fun e w' hh => hh.mono fun v w' hh => ?_
  have hZ := withB_ran hA hr
  rcases openJ_ok hf hr hA h with ⟨a, ⟨B, b1, b2, b3⟩, c⟩ | ⟨a, b, c⟩
  · rcases hh with ⟨_, jp, h1, h2⟩ | ⟨h1, _⟩
    · rw [b2] at h2
      refine .inl ⟨jp, _, _, B, h1, b1, b3, ?_, c, h2⟩
      rcases b1 with rfl | rfl
      · exact hA
      · exact hZ
    · exact absurd a h1
  · rcases hh with ⟨h0, _⟩ | ⟨_, h1, h2⟩
    · rw [a] at h0; cases h0
    · rw [a] at h1
      exact .inr ⟨b, _, h1, c, h2⟩
theorem lopen {w : World} {dp : Nat} {D : DS} {F : Th} (hS : Sat w [dT dp D, F]) (hG : Ent F WireG) (hO : Ent F (Glob 0)) {f : Int} {A : Int → Bytes} {l : List Blk} (hf : 0 ≤ f ∧ f ≤ 13) (hr : rightJ l = true) (hA : Ran A) (h : Lv D f A l) (ha : D.armed = 0) :
    Calls Tryz.prog 9 #[ptrV dp 0, intV f] w (Ret fun v w' => ∃ jp D' C B, v = .tuple #[ptrV jp 0, intV 0] ∧ (B = A ∨ B = withB A l) ∧ Sta D' f C B ∧ Ran B ∧ D'.armed = 0 ∧ Sat w' [jT jp dp ⟨f, C, B, false⟩, dT dp D', F]) := by
  refine (lopenA hS hG hO hf hr hA h).mono fun e w' hh => hh.mono fun v w' hh => ?_
  rcases hh with ⟨jp, D', C, B, h1, h2, h3, h4, h5, h6⟩ | ⟨h1, _⟩
  · exact ⟨jp, D', C, B, h1, h2, h3, h4, h5 ha, h6⟩
  · exact absurd ha h1
/-- an opening of what stands -/
theorem lopenS {w : World} {dp : Nat} {D : DS} {F : Th} (hS : Sat w [dT dp D, F]) (hG : Ent F WireG) (hO : Ent F (Glob 0)) {f : Int} {C : CS} {B : Int → Bytes} (hf : 0 ≤ f ∧ f ≤ 13) (hA : Ran B) (h : Sta D f C B) (ha : D.armed = 0) :
    Calls Tryz.prog 9 #[ptrV dp 0, intV f] w (Ret fun v w' => ∃ jp D' C', v = .tuple #[ptrV jp 0, intV 0] ∧ Sta D' f C' B ∧ D'.armed = 0 ∧ Sat w' [jT jp dp ⟨f, C', B, false⟩, dT dp D', F]) := by
  refine (lopen hS hG hO hf (l := []) rfl hA h.lv ha).mono fun e w' hh => hh.mono fun v w' ⟨jp, D', C', B', h1, h2, h3, h4, h5, h6⟩ => ?_
  have e : B' = B := by rcases h2 with q | q; exact q; exact q
  subst e
  exact ⟨jp, D', C', h1, h3, h5, h6⟩
theorem lcommit {w : World} {jp dp : Nat} {D : DS} {F : Th} {f : Int} {C : CS} {B : Int → Bytes} (hS : Sat w [jT jp dp ⟨f, C, B, false⟩, dT dp D, F]) (hG : Ent F WireG) (hO : Ent F (Glob 0)) (hf : 0 ≤ f ∧ f ≤ 13) (h : Sta D f C B) {lv : Value} {l : List Blk} (hL : Ent F (RdL jbC lv l)) (hln : l.length ≤ 1000000000) :
    Calls Tryz.prog 10 #[ptrV jp 0, lv] w (Ret fun v w' => (rightJ l = false ∧ v = intV 1 ∧ Sat w' [jT jp dp ⟨f, C, B, false⟩, dT dp D, F]) ∨
      (rightJ l = true ∧ ∃ D' C', v = intV 0 ∧ Sta D' f C' (withB B l) ∧ (D.armed = 0 → D'.armed = 0) ∧ Sat w' [jT jp dp ⟨f, C', withB B l, false⟩, dT dp D', F]) ∨
      (rightJ l = true ∧ D.armed ≠ 0 ∧ ∃ D' J', v = intV 9 ∧ J'.B = B ∧ Dw D' f B l ∧ D'.down = true ∧ Sat w' [jT jp dp J', dT dp D', F])) := by
  refine (jcommit_sp hS hG hO hL hln).mono fun e w' hh => hh.mono fun v w' ⟨h1, h2⟩ => ?_
  obtain ⟨c1, c2⟩ := commit_ok (J := ⟨f, C, B, false⟩) (l := l) hf rfl rfl h
  cases hq : rightJ l with
  | false =>
    rw [c1 hq] at h1 h2
    exact .inl ⟨rfl, h1, h2⟩
  | true =>
    rcases c2 hq with ⟨a, b, c, d⟩ | ⟨a, b, c, d⟩
    · rw [a] at h1; rw [b] at h2
      exact .inr (.inl ⟨rfl, _, _, h1, c, d, h2⟩)
    · rw [a] at h1
      exact .inr (.inr ⟨rfl, b, _, _, h1, c, d, d.cell.down, h2⟩)
/-- a commit while no crash is scheduled -/
theorem lcommit0 {w : World} {jp dp : Nat} {D : DS} {F : Th} {f : Int} {C : CS} {B : Int → Bytes} (hS : Sat w [jT jp dp ⟨f, C, B, false⟩, dT dp D, F]) (hG : Ent F WireG) (hO : Ent F (Glob 0)) (hf : 0 ≤ f ∧ f ≤ 13) (h : Sta D f C B) (ha : D.armed = 0) {lv : Value} {l : List Blk} (hL : Ent F (RdL jbC lv l)) (hln : l.length ≤ 1000000000) :
    Calls Tryz.prog 10 #[ptrV jp 0, lv] w (Ret fun v w' => ∃ D' C', v = intV (if rightJ l = true then 0 else 1) ∧ Sta D' f C' (if rightJ l = true then withB B l else B) ∧ D'.armed = 0 ∧ Sat w' [jT jp dp ⟨f, C', if rightJ l = true then withB B l else B, false⟩, dT dp D', F]) := by
  refine (lcommit hS hG hO hf h hL hln).mono fun e w' hh => hh.mono fun v w' hh => ?_
  rcases hh with ⟨h1, h2, h3⟩ | ⟨h1, D', C', h2, h3, h4, h5⟩ | ⟨_, h2, _⟩
  · rw [h1]; exact ⟨D, C, h2, h, ha, h3⟩
  · rw [h1]; exact ⟨D', C', h2, h3, h4 ha, h5⟩
  · exact absurd ha h2
/-- changes in an array of changes -/
structure ChD where
  v : Value
  l : List Blk
def chV (c : ChD) : List Value := [c.v]
abbrev ChsRd (v : Value) (l : List ChD) (w : World) : Prop := RdX chV 1 (fun c w => RdL jbC c.v c.l w) v l w
def FewJ (ls : List ChD) (n : Nat) : Prop := (∀ c ∈ ls, c.l.length ≤ 8) ∧ ls.length ≤ 12 ∧ n ≤ 30
set_option maxRecDepth 100000 in
theorem jfew_sp {w : World} {F : Th} (hS : Sat w [F]) {lv kv : Value} {ls : List ChD} {ks : List Int} (hL : Ent F (ChsRd lv ls)) (hK : Ent F (RdL inC kv ks)) :
    Calls Tryz.prog 7 #[lv, kv] w (Ret fun v w' => ∃ b, v = .bool b ∧ (b = true → FewJ ls ks.length) ∧ Sat w' [F]) := by
 obtain ⟨ao, cap, rfl, hmax⟩ := (hL.sat hS 0 rfl).shape
 obtain ⟨aok, capk, rfl, hmk⟩ := (hK.sat hS 0 rfl).shape
 refine calls_enter Tryz.func7 rfl Tryz.ntmps7 rfl ?_
 refine wc_seq (wc_region (wl_assign rfl rfl (wl_nil (qs_seq (wc_seq (wc_seq (wc_region (wl_assign rfl rfl (wl_nil (qs_seq (wc_block ?_)))))))))))
 refine wc_loop (fun K0 E0 W0 => ∃ (i : Nat), K0 = ls.length - i ∧ E0 = [(0, .slice ao ls.length cap), (1, .slice aok ks.length capk), (5, intV (i : Int))] ∧ Sat W0 [F] ∧ (i ≤ ls.length) ∧ (∀ j c, j < i → ls[j]? = some c → c.l.length ≤ 8)) (L0 := [(0, _), (1, _), (5, _)]) (ls.length - 0) (.cons rfl (.cons rfl (.cons rfl .nil))) ⟨0, rfl, rfl, hS, by omega, by omega⟩ ?_
 rintro _ _ w1 ⟨i, rfl, rfl, hS1, hi, hok⟩
 refine wc_seq (wc_seq (wc_region (wl_move rfl rfl (wl_move rfl rfl ?_))))
 refine wl_lenL Tryz.underlying22 rfl rfl ?_
 refine wl_lss rfl rfl rfl ?_
 refine wl_nil (qs_seq ?_)
 refine wc_condD rfl (fun h2 => ?_) (fun h2 => ?_)
 ·obtain ⟨⟨cv, cl⟩, hcx⟩ : ∃ c, ls[i]? = some c := ⟨_, List.getElem?_eq_getElem (by omega)⟩
  obtain ⟨⟨b, off, rfl, _⟩, hrd⟩ := (hL.sat hS1 0 rfl).get hcx
  have hE5 : Ent F (RdL jbC cv cl) := RdX.elem hL hcx
  dsimp only at hrd
  obtain ⟨ao2, cap2, rfl, hm2⟩ := hrd.shape
  clear hrd
  refine wc_skip (qs_seq (wc_seq (wc_block (wc_seq (wc_seq (wc_region (wl_assign rfl rfl (wl_nil (qs_seq (wc_block ?_))))))))))
  refine wc_loop (fun K0 E0 W0 => ∃ (k : Nat), K0 = cl.length - k ∧ E0 = [(0, .slice (some ⟨b, off, none⟩) ls.length cap), (1, .slice aok ks.length capk), (5, intV (i : Int)), (6, intV (k : Int))] ∧ Sat W0 [F] ∧ (k ≤ cl.length)) (L0 := [(0, _), (1, _), (5, _), (6, _)]) (cl.length - 0) (.cons rfl (.cons rfl (.cons rfl (.cons rfl .nil)))) ⟨0, rfl, rfl, hS1, by omega⟩ ?_
  rintro _ _ w3 ⟨k, rfl, rfl, hS3, hk⟩
  refine wc_seq (wc_seq (wc_region (wl_move rfl rfl (wl_move rfl rfl (wl_move rfl rfl ?_)))))
  refine wl_indexAddr i rfl rfl (by first | rfl | omega) (by omega) es_22 rfl ?_
  refine wl_load rfl ag_32 (RdX.cells (hL.sat hS3 0 rfl) hcx 0 _ rfl) rfl ?_
  refine wl_lenL Tryz.underlying32 rfl rfl ?_
  refine wl_lss rfl rfl rfl ?_
  refine wl_nil (qs_seq ?_)
  refine wc_sub (L' := [(19, _), (0, _), (1, _), (5, _), (6, _)]) (.cons rfl (.cons rfl (.cons rfl (.cons rfl (.cons rfl .nil))))) ?_
  refine wc_condD rfl (fun h4 => ?_) (fun h4 => ?_)
  ·obtain ⟨y, hy⟩ : ∃ y, cl[k]? = some y := ⟨_, List.getElem?_eq_getElem (by omega)⟩
   obtain ⟨b2, off2, rfl, _⟩ := (hE5.sat hS3 0 rfl).get hy
   refine wc_skip (qs_seq (wc_seq (wc_block (wc_seq (wc_region (wl_move rfl rfl (wl_move rfl rfl ?_)))))))
   refine wl_indexAddr i rfl rfl (by first | rfl | omega) (by omega) es_22 rfl ?_
   refine wl_load rfl ag_32 (RdX.cells (hL.sat hS3 0 rfl) hcx 0 _ rfl) rfl ?_
   refine wl_move rfl rfl ?_
   refine wl_indexAddr k rfl rfl (by first | rfl | omega) (by omega) es_32 rfl ?_
   refine wl_fieldAddr rfl fo_34_1 rfl ?_
   refine wl_load rfl ag_9 (((hE5.sat hS3 0 rfl).at_ hy) 1 _ rfl) rfl ?_
   refine wl_lenS Tryz.underlying9 rfl rfl ?_
   refine wl_gtr rfl rfl rfl ?_
   refine wl_nil (qs_seq ?_)
   refine wc_sub (L' := [(31, _), (0, _), (1, _), (5, _), (6, _)]) (.cons rfl (.cons rfl (.cons rfl (.cons rfl (.cons rfl .nil))))) ?_
   refine wc_condD rfl (fun h5 => ?_) (fun h5 => ?_)
   ·refine wc_seq (wc_region (wl_assign rfl rfl (wl_nil (qs_seq (wc_ret (qs_block_ret (qs_then_ret (qs_then_ret (qs_block_ret (qs_then_ret (qs_block_ret (qs_then_ret (qs_then_ret (qs_block_ret (qs_then_ret ?_)))))))))))))))
    refine fin1 (.inr rfl) rfl rfl ?_
    exact ⟨_, rfl, _, rfl, fun q => (by cases q), hS3.pick [0] rfl⟩
   refine wc_skip (qs_block_normal (qs_seq (wc_region (wl_move rfl rfl ?_))))
   refine wl_add rfl rfl (by omega) (by omega) rfl ?_
   refine wl_assign rfl rfl (wl_nil ?_)
   exact qs_round (L1 := [(0, _), (1, _), (5, _), (6, intV ((k + 1 : Nat) : Int))]) (.cons rfl (.cons rfl (.cons rfl (.cons rfl .nil)))) (k1 := cl.length - (k + 1)) (by omega) ⟨k + 1, rfl, rfl, hS3.pick [0] rfl, by omega⟩
  refine wc_exit (qs_then_exit (qs_then_exit (qs_block_exit (qs_seq (wc_seq (wc_region (wl_move rfl rfl (wl_move rfl rfl ?_))))))))
  refine wl_indexAddr i rfl rfl (by first | rfl | omega) (by omega) es_22 rfl ?_
  refine wl_load rfl ag_32 (RdX.cells (hL.sat hS3 0 rfl) hcx 0 _ rfl) rfl ?_
  refine wl_lenL Tryz.underlying32 rfl rfl ?_
  refine wl_gtr rfl rfl rfl ?_
  refine wl_nil (qs_seq ?_)
  refine wc_sub (L' := [(37, _), (0, _), (1, _), (5, _)]) (.cons rfl (.cons rfl (.cons rfl (.cons rfl .nil)))) ?_
  refine wc_condD rfl (fun h6 => ?_) (fun h6 => ?_)
  ·refine wc_seq (wc_region (wl_assign rfl rfl (wl_nil (qs_seq (wc_ret (qs_block_ret (qs_then_ret (qs_then_ret (qs_block_ret (qs_then_ret ?_))))))))))
   refine fin1 (.inr rfl) rfl rfl ?_
   exact ⟨_, rfl, _, rfl, fun q => (by cases q), hS3.pick [0] rfl⟩
  refine wc_skip (qs_block_normal (qs_seq (wc_region (wl_move rfl rfl ?_))))
  refine wl_add rfl rfl (by omega) (by omega) rfl ?_
  refine wl_assign rfl rfl (wl_nil ?_)
  exact qs_round (L1 := [(0, _), (1, _), (5, intV ((i + 1 : Nat) : Int))]) (.cons rfl (.cons rfl (.cons rfl .nil))) (k1 := ls.length - (i + 1)) (by omega) ⟨i + 1, rfl, rfl, hS3.pick [0] rfl, by omega, fun j c hj hc => by by_cases e : j = i; (subst e; rw [hcx] at hc; cases hc; show cl.length ≤ 8; omega); exact hok j c (by omega) hc⟩
 refine wc_exit (qs_then_exit (qs_then_exit (qs_block_exit (qs_seq (wc_seq (wc_region (wl_move rfl rfl ?_)))))))
 refine wl_lenL Tryz.underlying22 rfl rfl ?_
 refine wl_leq rfl rfl rfl ?_
 refine wl_move rfl rfl ?_
 refine wl_splitD 41 rfl (fun h7 => ?_) (fun h7 => ?_)
 ·refine wl_guard rfl rfl (decide_eq_true h7) ?_
  refine wl_move rfl rfl ?_
  refine wl_guard rfl rfl (decide_eq_true h7) ?_
  refine wl_lenL Tryz.underlying40 rfl rfl ?_
  refine wl_guard rfl rfl (decide_eq_true h7) ?_
  refine wl_leq rfl rfl rfl ?_
  refine wl_pickT rfl (decide_eq_true h7) rfl rfl ?_
  refine wl_assign rfl rfl (wl_nil (qs_seq ?_))
  refine wc_sub (L' := [(4, _)]) (.cons rfl .nil) ?_
  refine wc_ret ?_
  refine fin1 (.inr rfl) rfl rfl ?_
  exact ⟨_, rfl, _, rfl, fun q => ⟨fun c hc => by obtain ⟨j, hj⟩ := List.mem_iff_getElem?.1 hc; exact hok j c (by have := (List.getElem?_eq_some_iff.1 hj).1; omega) hj, by omega, by have := of_decide_eq_true q; omega⟩, hS1.pick [0] rfl⟩
 refine wl_unwanted rfl rfl (decide_eq_false h7) rfl ?_
 refine wl_unwanted rfl rfl (decide_eq_false h7) rfl ?_
 refine wl_unwanted rfl rfl (decide_eq_false h7) rfl ?_
 refine wl_pickF rfl (decide_eq_false h7) rfl rfl ?_
 refine wl_assign rfl rfl (wl_nil (qs_seq ?_))
 refine wc_sub (L' := [(4, _)]) (.cons rfl .nil) ?_
 refine wc_ret ?_
 refine fin1 (.inr rfl) rfl rfl ?_
 exact ⟨_, rfl, _, rfl, fun q => (by cases q), hS1.pick [0] rfl⟩
def sm1 : List Blk := [⟨5, [97]⟩, ⟨7, [98]⟩]
def sm2 : List Blk := [⟨5, []⟩, ⟨9, [99]⟩]
def sm3 : List Blk := [⟨7, [98]⟩, ⟨9, [99]⟩]
theorem sm_right : rightJ sm1 = true ∧ rightJ sm2 = true := by decide
theorem sm_read : withB (fun _ => []) sm1 5 = [97] := by decide
theorem sm_val (k : Int) : withB (withB (fun _ => []) sm1) sm2 k = if k = 9 then [99] else if k = 7 then [98] else [] := by
  show updB (updB (updB (updB _ 5 [97]) 7 [98]) 5 []) 9 [99] k = _
  unfold updB
  by_cases h9 : k = 9
  · rw [if_pos h9, if_pos h9]
  · rw [if_neg h9, if_neg h9]
    by_cases h5 : k = 5
    · rw [if_pos h5, if_neg (by omega)]
    · rw [if_neg h5]
      by_cases h7 : k = 7
      · rw [if_pos h7, if_pos h7]
      · rw [if_neg h7, if_neg h7, if_neg h5]
theorem sm_list : listB (withB (withB (fun _ => []) sm1) sm2) = sm3 := by
  refine sort_uniq (listB_sort _) (by unfold SortB sm3; simp) fun b => ?_
  rw [mem_listB, sm_val]
  unfold sm3
  simp only [List.mem_cons, List.not_mem_nil, or_false]
  constructor
  · rintro ⟨_, h2, h3⟩
    split at h2
    · rename_i h; right; cases b; simp_all
    · split at h2
      · rename_i h; left; cases b; simp_all
      · exact absurd h2.symm h3
  · rintro (rfl | rfl) <;> simp
set_option maxRecDepth 100000 in
theorem jsmall_sp {w : World} {F : Th} (hS : Sat w [F]) (hG : Ent F WireG) (hO : Ent F (Glob 0)) :
    Calls Tryz.prog 6 #[] w (Ret fun v w' => v = .bool true ∧ Sat w' [F]) := by
 refine calls_enter Tryz.func6 rfl Tryz.ntmps6 rfl ?_
 refine wc_seq (wc_region (wl_assign rfl rfl (wl_nil (qs_seq (wc_seq (wc_region ?_))))))
 have hC1 := hS.split [] [false] rfl; dsimp only [selF, pickA, nthA, List.cons_append, List.nil_append] at hC1
 refine wl_call cal_8 rfl (new_sp hC1) rfl ?_
 rintro e w1 ⟨_, rfl, p, rfl, hS1⟩; refine ⟨_, rfl, ?_⟩
 replace hS1 := hS1.join rfl; dsimp only [List.dropLast, List.cons_append, List.nil_append] at hS1; clear hC1
 replace hS1 := dT_new hS1
 refine wl_assign rfl rfl (wl_nil (qs_seq (wc_seq (wc_seq (wc_region (wl_move rfl rfl ?_))))))
 refine wl_eqlNil Tryz.underlying25 rfl rfl rfl ?_
 refine wl_nil (qs_seq ?_)
 refine wc_condF rfl ?_
 refine wc_skip (qs_seq (wc_seq (wc_region (wl_move rfl rfl ?_))))
 have hC2 := hS1.split [0] [true, false] rfl; dsimp only [selF, pickA, nthA, List.cons_append, List.nil_append] at hC2
 refine wl_call cal_9 rfl (lopenS hC2 (hG.starL 0 rfl) (hO.starL 0 rfl) (by omega) ran_nil (sta_new (by omega)) rfl) rfl ?_
 rintro e w2 ⟨_, rfl, jp, D1, C1, rfl, hs1, ha1, hS2⟩; refine ⟨_, rfl, ?_⟩
 replace hS2 := hS2.join rfl; dsimp only [List.dropLast, List.cons_append, List.nil_append] at hS2; clear hC2
 clear hS1
 refine wl_move rfl rfl (wl_extract rfl rfl rfl (wl_extract rfl rfl rfl (wl_assign rfl rfl (wl_assign rfl rfl (wl_nil (qs_seq ?_))))))
 refine wc_sub (L' := [(3, _), (2, _), (1, _), (0, _)]) (.cons rfl (.cons rfl (.cons rfl (.cons rfl .nil)))) ?_
 refine wc_seq (wc_seq (wc_region (wl_move rfl rfl ?_)))
 refine wl_neq rfl rfl rfl ?_
 refine wl_move rfl rfl ?_
 refine wl_splitD 19 rfl (fun h3 => ?_) (fun h3 => ?_)
 ·exact absurd rfl h3
 refine wl_guard rfl rfl (decide_eq_false h3) ?_
 refine wl_move rfl rfl ?_
 refine wl_guard rfl rfl (decide_eq_false h3) ?_
 refine wl_eqlNil Tryz.underlying27 rfl rfl rfl ?_
 refine wl_pickF rfl (decide_eq_false h3) rfl rfl ?_
 refine wl_nil (qs_seq ?_)
 refine wc_condF rfl ?_
 refine wc_skip (qs_seq (wc_seq (wc_region (wl_move rfl rfl ?_))))
 refine wl_buildS rfl pl_34_0_1 asz_34 zr_34 rfl rfl ?_
 refine wl_buildS rfl pl_34_0_1 asz_34 zr_34 rfl rfl ?_
 refine wl_rowBuild jbC sm1 hS2 rfl Tryz.underlying32 ifz_34 rfl rfl rfl rfl (by first | rfl | simp [RowC.cells, fillL, splice]) rfl ?_
 intro b4 w4 hS4
 clear hS2
 have hC5 := hS4.split [1, 2] [false, true, true, false] rfl; dsimp only [selF, pickA, nthA, List.cons_append, List.nil_append] at hC5
 refine wl_call cal_10 rfl (lcommit0 hC5 (hG.starL 1 rfl) (hO.starL 1 rfl) (by omega) hs1 ha1 (Ent.starL (ent_row (C := jbC) (l := sm1) (by decide)) 0 rfl) (by decide)) rfl ?_
 rintro e w5 ⟨_, rfl, D2, C2, rfl, hs2, ha2, hS5⟩; refine ⟨_, rfl, ?_⟩
 replace hS5 := hS5.join rfl; dsimp only [List.dropLast, List.cons_append, List.nil_append] at hS5; clear hC5
 clear hS4
 refine wl_assign rfl rfl (wl_nil ?_)
 rw [if_pos sm_right.1]
 simp only [if_pos sm_right.1] at hS5 hs2
 refine qs_seq ?_
 refine wc_sub (L' := [(4, _), (2, _), (1, _), (0, _)]) (.cons rfl (.cons rfl (.cons rfl (.cons rfl .nil)))) ?_
 refine wc_seq (wc_region (wl_move rfl rfl ?_))
 have hC6 := hS5.split [0] [true, false, false, false] rfl; dsimp only [selF, pickA, nthA, List.cons_append, List.nil_append] at hC6
 refine wl_call cal_11 rfl (jread hC6 5) rfl ?_
 rintro e w6 ⟨_, rfl, rfl, hS6⟩; refine ⟨_, rfl, ?_⟩
 replace hS6 := hS6.join rfl; dsimp only [List.dropLast, List.cons_append, List.nil_append] at hS6; clear hC6
 clear hS5
 refine wl_assign rfl rfl (wl_nil (qs_seq (wc_seq (wc_region (wl_move rfl rfl ?_)))))
 refine wl_buildS rfl pl_34_0 asz_34 zr_34 rfl rfl ?_
 refine wl_buildS rfl pl_34_0_1 asz_34 zr_34 rfl rfl ?_
 refine wl_rowBuild jbC sm2 hS6 rfl Tryz.underlying32 ifz_34 rfl rfl rfl rfl (by first | rfl | simp [RowC.cells, fillL, splice]) rfl ?_
 intro b7 w7 hS7
 clear hS6
 have hC8 := hS7.split [1, 2] [false, true, true, false, false] rfl; dsimp only [selF, pickA, nthA, List.cons_append, List.nil_append] at hC8
 refine wl_call cal_10 rfl (lcommit0 hC8 (hG.starL 2 rfl) (hO.starL 2 rfl) (by omega) hs2 ha2 (Ent.starL (ent_row (C := jbC) (l := sm2) (by decide)) 0 rfl) (by decide)) rfl ?_
 rintro e w8 ⟨_, rfl, D3, C3, rfl, hs3, ha3, hS8⟩; refine ⟨_, rfl, ?_⟩
 replace hS8 := hS8.join rfl; dsimp only [List.dropLast, List.cons_append, List.nil_append] at hS8; clear hC8
 clear hS7
 refine wl_assign rfl rfl (wl_nil ?_)
 rw [if_pos sm_right.2]
 simp only [if_pos sm_right.2] at hS8 hs3
 refine qs_seq ?_
 refine wc_sub (L' := [(6, _), (5, _), (4, _), (1, _), (0, _)]) (.cons rfl (.cons rfl (.cons rfl (.cons rfl (.cons rfl .nil))))) ?_
 refine wc_seq (wc_region (wl_move rfl rfl ?_))
 have hC9 := hS8.split [1] [false, true, false, false, false] rfl; dsimp only [selF, pickA, nthA, List.cons_append, List.nil_append] at hC9
 refine wl_call cal_9 rfl (lopenS hC9 (hG.starL 3 rfl) (hO.starL 3 rfl) (by omega) (withB_ran (withB_ran ran_nil sm_right.1) sm_right.2) hs3 ha3) rfl ?_
 rintro e w9 ⟨_, rfl, jp2, D4, C4, rfl, hs4, ha4, hS9⟩; refine ⟨_, rfl, ?_⟩
 replace hS9 := hS9.join rfl; dsimp only [List.dropLast, List.cons_append, List.nil_append] at hS9; clear hC9
 clear hS8
 refine wl_move rfl rfl (wl_extract rfl rfl rfl (wl_extract rfl rfl rfl (wl_assign rfl rfl (wl_assign rfl rfl (wl_nil (qs_seq ?_))))))
 refine wc_sub (L' := [(8, _), (7, _), (6, _), (5, _), (4, _), (0, _)]) (.cons rfl (.cons rfl (.cons rfl (.cons rfl (.cons rfl (.cons rfl .nil)))))) ?_
 refine wc_seq (wc_seq (wc_region (wl_move rfl rfl ?_)))
 refine wl_neq rfl rfl rfl ?_
 refine wl_move rfl rfl ?_
 refine wl_splitD 42 rfl (fun h10 => ?_) (fun h10 => ?_)
 ·exact absurd rfl h10
 refine wl_guard rfl rfl (decide_eq_false h10) ?_
 refine wl_move rfl rfl ?_
 refine wl_guard rfl rfl (decide_eq_false h10) ?_
 refine wl_eqlNil Tryz.underlying27 rfl rfl rfl ?_
 refine wl_pickF rfl (decide_eq_false h10) rfl rfl ?_
 refine wl_nil (qs_seq ?_)
 refine wc_sub (L' := [(45, _), (7, _), (6, _), (5, _), (4, _), (0, _)]) (.cons rfl (.cons rfl (.cons rfl (.cons rfl (.cons rfl (.cons rfl .nil)))))) ?_
 refine wc_condF rfl ?_
 refine wc_skip (qs_seq (wc_seq (wc_region (wl_move rfl rfl ?_))))
 refine wl_eql rfl rfl rfl ?_
 refine wl_move rfl rfl ?_
 refine wl_splitD 48 rfl (fun h11 => ?_) (fun h11 => ?_)
 ·refine wl_guard rfl rfl (decide_eq_true h11) ?_
  refine wl_move rfl rfl ?_
  refine wl_guard rfl rfl (decide_eq_true h11) ?_
  refine wl_eqlS rfl rfl rfl ?_
  refine wl_pickT rfl (decide_eq_true h11) rfl rfl ?_
  refine wl_move rfl rfl ?_
  refine wl_splitD 52 rfl (fun h12 => ?_) (fun h12 => ?_)
  ·refine wl_guard rfl rfl (decide_eq_true h12) ?_
   refine wl_move rfl rfl ?_
   refine wl_guard rfl rfl (decide_eq_true h12) ?_
   refine wl_eql rfl rfl rfl ?_
   refine wl_pickT rfl (decide_eq_true h12) rfl rfl ?_
   refine wl_move rfl rfl ?_
   refine wl_splitD 56 rfl (fun h13 => ?_) (fun h13 => ?_)
   ·refine wl_guard rfl rfl (decide_eq_true h13) ?_
    refine wl_move rfl rfl ?_
    refine wl_guard rfl rfl (decide_eq_true h13) ?_
    have hC14 := hS9.split [0] [true, false, false, false, false, false] rfl; dsimp only [selF, pickA, nthA, List.cons_append, List.nil_append] at hC14
    refine wl_call cal_13 rfl (jblocks hC14) rfl ?_
    rintro e w14 ⟨_, rfl, hS14⟩; refine ⟨_, rfl, ?_⟩
    replace hS14 := hS14.join rfl; dsimp only [List.dropLast, List.cons_append, List.nil_append] at hS14; clear hC14
    clear hS9
    rename Value => blv
    refine wl_guard rfl rfl (decide_eq_true h13) ?_
    refine wl_buildS rfl pl_34_0_1 asz_34 zr_34 rfl rfl ?_
    refine wl_guard rfl rfl (decide_eq_true h13) ?_
    refine wl_buildS rfl pl_34_0_1 asz_34 zr_34 rfl rfl ?_
    refine wl_guard rfl rfl (decide_eq_true h13) ?_
    refine wl_rowBuild jbC sm3 hS14 rfl Tryz.underlying32 ifz_34 rfl rfl rfl rfl (by first | rfl | simp [RowC.cells, fillL, splice]) rfl ?_
    intro b15 w15 hS15
    clear hS14
    refine wl_guard rfl rfl (decide_eq_true h13) ?_
    have hC16 := hS15.split [] [false, false, false, false, false, false, false, false] rfl; dsimp only [selF, pickA, nthA, List.cons_append, List.nil_append] at hC16
    refine wl_call cal_12 rfl (bsame_sp hC16 (Ent.starL (ent_row (C := jbC) (l := listB (withB (withB (fun _ => []) sm1) sm2)) (by rw [sm_list]; decide)) 1 rfl) (Ent.starL (ent_row (C := jbC) (l := sm3) (by decide)) 0 rfl)) rfl ?_
    rintro e w16 ⟨_, rfl, rfl, hS16⟩; refine ⟨_, rfl, ?_⟩
    replace hS16 := hS16.join rfl; dsimp only [List.dropLast, List.cons_append, List.nil_append] at hS16; clear hC16
    clear hS15
    refine wl_pickT rfl (decide_eq_true h13) rfl rfl ?_
    refine wl_assign rfl rfl (wl_nil (qs_seq ?_))
    refine wc_sub (L' := [(0, _)]) (.cons rfl .nil) ?_
    refine wc_ret ?_
    refine fin1 (.inr rfl) rfl rfl ?_
    exact ⟨_, rfl, by rw [decide_eq_true sm_list], hS16.pick [7] rfl⟩
   exact absurd rfl h13
  exact absurd sm_read h12
 exact absurd rfl h11
end Go.Proofs.YtfmkodmmbgibgaaGreatDoor
