/- procs: Same of equal records -/
import Derived.Test.YtcbdclhoekokpaaGreatDoorPc7
import Derived.Test.YtcbdclhoekokpaaGreatDoorWb
import Derived.ChangeKeysEq
import Derived.Laws.StructEq
namespace Go.Proofs.YtcbdclhoekokpaaGreatDoor
open Go.RowKit M
set_option linter.unusedVariables false
theorem selfArea (y : ArD) (w : World) : (Op.equal 89 (.agg (arV6 y).toArray) (.agg (arV6 y).toArray)).run Tryz.prog w = .ok true w := by
  have u3 := Tryz.underlying3
  have a3 : aggB Tryz.prog 3 = some false := by kernel_rfl
  have ub := Tryz.underlying4
  have ab : aggB Tryz.prog 4 = some false := by kernel_rfl
  have us := Tryz.underlying9
  have as_ : aggB Tryz.prog 9 = some false := by kernel_rfl
  have hS : Tryz.prog.underlying 89 = some (.struct (Tryz.prog.fieldsOf 89)) := by kernel_rfl
  have hp : Tryz.prog.stoodInHeld 89 = false := by kernel_rfl
  unfold Op.equal Op.maxDepth
  generalize hN : (10000 : Nat) = N
  obtain ⟨m, rfl⟩ : ∃ m, N = m + 1 + 1 := ⟨9998, by omega⟩
  rw [run_equalIn_struct w (m + 1) 89 _ _ hS hp]
  have q0 : ∀ w, (part 3 (arV6 y).toArray 0).run Tryz.prog w = .ok (intV y.a) w := fun w => run_part1 (P := Tryz.prog) a3 (arV6 y).toArray 0 _ rfl w
  have q1 : ∀ w, (part 3 (arV6 y).toArray 1).run Tryz.prog w = .ok (intV y.n) w := fun w => run_part1 (P := Tryz.prog) a3 (arV6 y).toArray 1 _ rfl w
  have q2 : ∀ w, (part 9 (arV6 y).toArray 2).run Tryz.prog w = .ok (strV y.o) w := fun w => run_part1 (P := Tryz.prog) as_ (arV6 y).toArray 2 _ rfl w
  have q3 : ∀ w, (part 3 (arV6 y).toArray 3).run Tryz.prog w = .ok (intV y.f) w := fun w => run_part1 (P := Tryz.prog) a3 (arV6 y).toArray 3 _ rfl w
  have q4 : ∀ w, (part 4 (arV6 y).toArray 4).run Tryz.prog w = .ok (.bool y.sh) w := fun w => run_part1 (P := Tryz.prog) ab (arV6 y).toArray 4 _ rfl w
  have q5 : ∀ w, (part 4 (arV6 y).toArray 5).run Tryz.prog w = .ok (.bool y.wr) w := fun w => run_part1 (P := Tryz.prog) ab (arV6 y).toArray 5 _ rfl w
  simp only [Program.fieldsOf, Tryz.underlying89, Op.eqFields, Sem.run_bind, q0, q1, q2, q3, q4, q5, Result.andThen_ok, Sem.run_ite, Sem.run_pure]
  simp [run_equalIn_int _ _ _ _ _ _ _ u3, run_equalIn_bool' _ _ _ _ _ ub, run_equalIn_string _ _ _ _ _ us]
set_option maxRecDepth 100000 in
theorem eq22_sp {w : World} {F : Th} (hS : Sat w [F]) {v1 v2 : Value} {l : List ArD} (hE1 : Ent F (RdL arC v1 l)) (hE2 : Ent F (RdL arC v2 l)) :
    Calls Tryz.prog 45 #[v1, v2] w (Ret fun v w' => v = .bool true ∧ Sat w' [F]) := by
  obtain ⟨ao1, cap1, rfl, hm1⟩ := (hE1.sat hS 0 rfl).shape
  obtain ⟨ao2, cap2, rfl, hm2⟩ := (hE2.sat hS 0 rfl).shape
  refine calls_enter Tryz.func45 rfl Tryz.ntmps45 rfl ?_
  refine wc_seq ?_
  refine wc_region ?_
  refine wl_assign rfl rfl ?_
  refine wl_nil ?_
  refine qs_seq ?_
  refine wc_seq ?_
  refine wc_seq ?_
  refine wc_region ?_
  refine wl_move rfl rfl ?_
  refine wl_lenL Tryz.underlying30 rfl rfl ?_
  refine wl_move rfl rfl ?_
  refine wl_lenL Tryz.underlying30 rfl rfl ?_
  refine wl_neq rfl rfl rfl ?_
  refine wl_nil ?_
  refine qs_seq ?_
  refine wc_condD rfl (fun h1 => ?_) (fun h1 => ?_)
  · skip
    exact absurd rfl h1
  refine wc_skip ?_
  refine qs_seq ?_
  refine wc_seq ?_
  refine wc_seq ?_
  refine wc_region ?_
  refine wl_assign rfl rfl ?_
  refine wl_nil ?_
  refine qs_seq ?_
  refine wc_block ?_
  refine wc_loop (fun K0 E0 W0 => ∃ (i : Nat), K0 = l.length - i ∧ E0 = [(0, .slice ao1 l.length cap1), (1, .slice ao2 l.length cap2), (5, intV (i : Int))] ∧ Sat W0 [F] ∧ (i ≤ l.length)) (L0 := [(0, _), (1, _), (5, _)]) (l.length - 0) (.cons rfl (.cons rfl (.cons rfl .nil))) ⟨0, rfl, rfl, hS, by omega⟩ ?_
  rintro _ _ w2 ⟨i, rfl, rfl, hS2, hi⟩
  refine wc_seq ?_
  refine wc_seq ?_
  refine wc_region ?_
  refine wl_move rfl rfl ?_
  refine wl_move rfl rfl ?_
  refine wl_lenL Tryz.underlying30 rfl rfl ?_
  refine wl_lss rfl rfl rfl ?_
  refine wl_nil ?_
  refine qs_seq ?_
  refine wc_condD rfl (fun h3 => ?_) (fun h3 => ?_)
  · skip
    obtain ⟨y, hy⟩ : ∃ y, l[i]? = some y := ⟨_, List.getElem?_eq_getElem (by omega)⟩
    obtain ⟨b1, off1, rfl, hc1⟩ := (hE1.sat hS2 0 rfl).get hy
    obtain ⟨b2, off2, rfl, hc2⟩ := (hE2.sat hS2 0 rfl).get hy
    refine wc_skip ?_
    refine qs_seq ?_
    refine wc_seq ?_
    refine wc_block ?_
    refine wc_seq ?_
    have hS4 := hS2.drew
    refine wc_draw [0, 1, 2, 3, 4, 5, 6, 7, 8] [] mix (by kernel_rfl) ?_
    refine vc_p rfl rfl rfl (fun _ => (ev_move rfl)) ?_
    refine vc_p rfl rfl rfl (fun _ => (ev_move rfl)) ?_
    refine vc_p rfl rfl rfl (fun _ => (ev_indexAddr i rfl rfl (by first | rfl | omega) (by exact (List.getElem?_eq_some_iff.1 hy).1) es_30)) ?_
    refine vc_q rfl rfl rfl (ev_loadAt rfl ag_89 sz_89 (vs := arV6 y) hc1) ?_
    refine vc_p rfl rfl rfl (fun _ => (ev_move rfl)) ?_
    refine vc_p rfl rfl rfl (fun _ => (ev_move rfl)) ?_
    refine vc_p rfl rfl rfl (fun _ => (ev_indexAddr i rfl rfl (by first | rfl | omega) (by exact (List.getElem?_eq_some_iff.1 hy).1) es_30)) ?_
    refine vc_q rfl rfl rfl (ev_loadAt rfl ag_89 sz_89 (vs := arV6 y) hc2) ?_
    refine vc_p rfl rfl rfl (fun _ => (ev_neqAgg (selfArea y) (by kernel_rfl) rfl rfl)) ?_
    refine VC.nil ?_
    refine qs_seq ?_
    refine wc_sub (L' := [(25, _), (0, _), (1, _), (5, _)]) (.cons rfl (.cons rfl (.cons rfl (.cons rfl .nil)))) ?_
    refine wc_cond rfl (fun h5 => ?_) (fun h5 => ?_)
    · skip
      simp at h5
    refine wc_skip ?_
    refine qs_block_normal ?_
    refine qs_seq ?_
    refine wc_region ?_
    refine wl_move rfl rfl ?_
    refine wl_add rfl rfl (by first | omega | (simp; omega)) (by first | omega | (simp; omega)) rfl ?_
    refine wl_assign rfl rfl ?_
    refine wl_nil ?_
    exact qs_round (L1 := [(0, _), (1, _), (5, intV ((i + 1 : Nat) : Int))]) (.cons rfl (.cons rfl (.cons rfl .nil))) (k1 := l.length - (i + 1)) (by omega) ⟨i + 1, rfl, rfl, hS4, by omega⟩
  refine wc_exit ?_
  refine qs_then_exit ?_
  refine qs_then_exit ?_
  refine qs_block_exit ?_
  refine qs_seq ?_
  refine wc_seq ?_
  refine wc_region ?_
  refine wl_assign rfl rfl ?_
  refine wl_nil ?_
  refine qs_seq ?_
  refine wc_ret ?_
  refine fin1 (.inr rfl) rfl rfl ?_
  exact ⟨_, rfl, rfl, hS2⟩
set_option maxRecDepth 100000 in
set_option maxHeartbeats 2000000 in
theorem refSame_sp {w : World} {F : Th} (hS : Sat w [F]) {x : ProcD} {a1 f1 a2 f2 : Value} (hA1 : Ent F (RdL arC a1 x.ar)) (hF1 : Ent F (RdL stC f1 x.fds)) (hA2 : Ent F (RdL arC a2 x.ar)) (hF2 : Ent F (RdL stC f2 x.fds)) :
    Calls Tryz.prog 14 #[.agg (procV x a1 f1).toArray, .agg (procV x a2 f2).toArray] w (Ret fun v w' => v = .bool true ∧ Sat w' [F]) := by
  refine calls_enter Tryz.func14 rfl Tryz.ntmps14 rfl ?_
  refine wc_seq ?_
  refine wc_region ?_
  refine wl_box hS rfl rfl rfl ?_
  intro b1 w1 hS1a
  have hS1 : Sat w1 [blkT b1 (procV x a1 f1), F] := hS1a
  refine wl_box hS1 rfl rfl rfl ?_
  intro b2 w2 hS2a
  have hS2 : Sat w2 [blkT b2 (procV x a2 f2), blkT b1 (procV x a1 f1), F] := hS2a
  clear hS1
  refine wl_assign rfl rfl ?_
  refine wl_nil ?_
  refine qs_seq ?_
  refine wc_seq ?_
  refine wc_seq ?_
  refine wc_region ?_
  refine wl_fieldAddr rfl fo_38_11 rfl ?_
  refine wl_load rfl ag_30 (by first | assumption | exact hS2.cell 0 rfl rfl | exact hS2.cell 1 rfl rfl) rfl ?_
  refine wl_fieldAddr rfl fo_38_11 rfl ?_
  refine wl_load rfl ag_30 (by first | assumption | exact hS2.cell 0 rfl rfl | exact hS2.cell 1 rfl rfl) rfl ?_
  have hC3 := hS2.split [] [false, false, false] rfl; dsimp only [selF, pickA, nthA, List.cons_append, List.nil_append] at hC3
  refine wl_call cal_45 rfl (eq22_sp hC3 (hA1.starL 2 rfl) (hA2.starL 2 rfl)) rfl ?_
  rintro e w3 ⟨_, rfl, rfl, hS3⟩; refine ⟨_, rfl, ?_⟩
  replace hS3 := hS3.join rfl; dsimp only [List.dropLast, List.cons_append, List.nil_append] at hS3; clear hC3
  clear hS2
  refine wl_not rfl rfl ?_
  refine wl_move rfl rfl ?_
  refine wl_split 11 rfl (fun h4 => ?_) (fun h4 => ?_)
  · skip
    simp at h4
  refine wl_guard rfl rfl h4 ?_
  refine wl_fieldAddr rfl fo_38_12 rfl ?_
  refine wl_guard rfl rfl h4 ?_
  refine wl_load rfl ag_31 (by first | assumption | exact hS3.cell 0 rfl rfl | exact hS3.cell 1 rfl rfl) rfl ?_
  refine wl_guard rfl rfl h4 ?_
  refine wl_fieldAddr rfl fo_38_12 rfl ?_
  refine wl_guard rfl rfl h4 ?_
  refine wl_load rfl ag_31 (by first | assumption | exact hS3.cell 0 rfl rfl | exact hS3.cell 1 rfl rfl) rfl ?_
  refine wl_guard rfl rfl h4 ?_
  have hC5 := hS3.split [] [false, false, false] rfl; dsimp only [selF, pickA, nthA, List.cons_append, List.nil_append] at hC5
  refine wl_call cal_30 rfl (same_sp hC5 (hF1.starL 2 rfl) (hF2.starL 2 rfl)) rfl ?_
  rintro e w5 ⟨_, rfl, rfl, hS5⟩; refine ⟨_, rfl, ?_⟩
  replace hS5 := hS5.join rfl; dsimp only [List.dropLast, List.cons_append, List.nil_append] at hS5; clear hC5
  clear hS3
  refine wl_guard rfl rfl h4 ?_
  refine wl_not rfl rfl ?_
  refine wl_pickF rfl h4 rfl rfl ?_
  refine wl_move rfl rfl ?_
  refine wl_split 19 rfl (fun h6 => ?_) (fun h6 => ?_)
  · skip
    simp at h6
  refine wl_guard rfl rfl h6 ?_
  refine wl_fieldAddr rfl fo_38_10 rfl ?_
  refine wl_guard rfl rfl h6 ?_
  refine wl_loadA rfl ag_29 sz_29 (by first | exact hS5.blk 0 rfl | exact hS5.blk 1 rfl) (by first | decide | exact Nat.le_of_ble_eq_true rfl | (simp; done) | omega) rfl rfl ?_
  refine wl_guard rfl rfl h6 ?_
  refine wl_fieldAddr rfl fo_38_10 rfl ?_
  refine wl_guard rfl rfl h6 ?_
  refine wl_loadA rfl ag_29 sz_29 (by first | exact hS5.blk 0 rfl | exact hS5.blk 1 rfl) (by first | decide | exact Nat.le_of_ble_eq_true rfl | (simp; done) | omega) rfl rfl ?_
  refine wl_guard rfl rfl h6 ?_
  refine wl_val rfl (ev_neqAgg (selfRegs x) (by kernel_rfl) rfl rfl) ?_
  refine wl_pickF rfl h6 rfl rfl ?_
  refine wl_move rfl rfl ?_
  refine wl_split 26 rfl (fun h7 => ?_) (fun h7 => ?_)
  · skip
    simp at h7
  refine wl_guard rfl rfl h7 ?_
  refine wl_fieldAddr rfl fo_38_16 rfl ?_
  refine wl_guard rfl rfl h7 ?_
  refine wl_loadA rfl ag_34 sz_34 (by first | exact hS5.blk 0 rfl | exact hS5.blk 1 rfl) (by first | decide | exact Nat.le_of_ble_eq_true rfl | (simp; done) | omega) rfl rfl ?_
  refine wl_guard rfl rfl h7 ?_
  refine wl_fieldAddr rfl fo_38_16 rfl ?_
  refine wl_guard rfl rfl h7 ?_
  refine wl_loadA rfl ag_34 sz_34 (by first | exact hS5.blk 0 rfl | exact hS5.blk 1 rfl) (by first | decide | exact Nat.le_of_ble_eq_true rfl | (simp; done) | omega) rfl rfl ?_
  refine wl_guard rfl rfl h7 ?_
  refine wl_val rfl (ev_neqAgg (selfActs x a1 f1) (by kernel_rfl) rfl rfl) ?_
  refine wl_pickF rfl h7 rfl rfl ?_
  refine wl_move rfl rfl ?_
  refine wl_split 33 rfl (fun h8 => ?_) (fun h8 => ?_)
  · skip
    simp at h8
  refine wl_guard rfl rfl h8 ?_
  refine wl_fieldAddr rfl fo_38_17 rfl ?_
  refine wl_guard rfl rfl h8 ?_
  refine wl_loadA rfl ag_36 sz_36 (by first | exact hS5.blk 0 rfl | exact hS5.blk 1 rfl) (by first | decide | exact Nat.le_of_ble_eq_true rfl | (simp; done) | omega) rfl rfl ?_
  refine wl_guard rfl rfl h8 ?_
  refine wl_fieldAddr rfl fo_38_17 rfl ?_
  refine wl_guard rfl rfl h8 ?_
  refine wl_loadA rfl ag_36 sz_36 (by first | exact hS5.blk 0 rfl | exact hS5.blk 1 rfl) (by first | decide | exact Nat.le_of_ble_eq_true rfl | (simp; done) | omega) rfl rfl ?_
  refine wl_guard rfl rfl h8 ?_
  refine wl_val rfl (ev_neqAgg (selfWait x) (by kernel_rfl) rfl rfl) ?_
  refine wl_pickF rfl h8 rfl rfl ?_
  refine wl_nil ?_
  refine qs_seq ?_
  refine wc_sub (L' := [(39, _), (4, _), (3, _), (2, _)]) (.cons rfl (.cons rfl (.cons rfl (.cons rfl .nil)))) ?_
  refine wc_cond rfl (fun h9 => ?_) (fun h9 => ?_)
  · skip
    simp at h9
  refine wc_skip ?_
  refine qs_seq ?_
  refine wc_seq ?_
  refine wc_seq ?_
  refine wc_region ?_
  refine wl_fieldAddr rfl fo_38_0 rfl ?_
  refine wl_load rfl ag_3 (by first | assumption | exact hS5.cell 0 rfl rfl | exact hS5.cell 1 rfl rfl) rfl ?_
  refine wl_fieldAddr rfl fo_38_0 rfl ?_
  refine wl_load rfl ag_3 (by first | assumption | exact hS5.cell 0 rfl rfl | exact hS5.cell 1 rfl rfl) rfl ?_
  refine wl_neq rfl rfl rfl ?_
  refine wl_move rfl rfl ?_
  refine wl_splitD 45 rfl (fun h10 => ?_) (fun h10 => ?_)
  · skip
    exact absurd rfl h10
  refine wl_guard rfl rfl (decide_eq_false h10) ?_
  refine wl_fieldAddr rfl fo_38_1 rfl ?_
  refine wl_guard rfl rfl (decide_eq_false h10) ?_
  refine wl_load rfl ag_3 (by first | assumption | exact hS5.cell 0 rfl rfl | exact hS5.cell 1 rfl rfl) rfl ?_
  refine wl_guard rfl rfl (decide_eq_false h10) ?_
  refine wl_fieldAddr rfl fo_38_1 rfl ?_
  refine wl_guard rfl rfl (decide_eq_false h10) ?_
  refine wl_load rfl ag_3 (by first | assumption | exact hS5.cell 0 rfl rfl | exact hS5.cell 1 rfl rfl) rfl ?_
  refine wl_guard rfl rfl (decide_eq_false h10) ?_
  refine wl_neq rfl rfl rfl ?_
  refine wl_pickF rfl (decide_eq_false h10) rfl rfl ?_
  refine wl_move rfl rfl ?_
  refine wl_splitD 52 rfl (fun h11 => ?_) (fun h11 => ?_)
  · skip
    exact absurd rfl h11
  refine wl_guard rfl rfl (decide_eq_false h11) ?_
  refine wl_fieldAddr rfl fo_38_2 rfl ?_
  refine wl_guard rfl rfl (decide_eq_false h11) ?_
  refine wl_load rfl ag_3 (by first | assumption | exact hS5.cell 0 rfl rfl | exact hS5.cell 1 rfl rfl) rfl ?_
  refine wl_guard rfl rfl (decide_eq_false h11) ?_
  refine wl_fieldAddr rfl fo_38_2 rfl ?_
  refine wl_guard rfl rfl (decide_eq_false h11) ?_
  refine wl_load rfl ag_3 (by first | assumption | exact hS5.cell 0 rfl rfl | exact hS5.cell 1 rfl rfl) rfl ?_
  refine wl_guard rfl rfl (decide_eq_false h11) ?_
  refine wl_neq rfl rfl rfl ?_
  refine wl_pickF rfl (decide_eq_false h11) rfl rfl ?_
  refine wl_move rfl rfl ?_
  refine wl_splitD 59 rfl (fun h12 => ?_) (fun h12 => ?_)
  · skip
    exact absurd rfl h12
  refine wl_guard rfl rfl (decide_eq_false h12) ?_
  refine wl_fieldAddr rfl fo_38_3 rfl ?_
  refine wl_guard rfl rfl (decide_eq_false h12) ?_
  refine wl_load rfl ag_3 (by first | assumption | exact hS5.cell 0 rfl rfl | exact hS5.cell 1 rfl rfl) rfl ?_
  refine wl_guard rfl rfl (decide_eq_false h12) ?_
  refine wl_fieldAddr rfl fo_38_3 rfl ?_
  refine wl_guard rfl rfl (decide_eq_false h12) ?_
  refine wl_load rfl ag_3 (by first | assumption | exact hS5.cell 0 rfl rfl | exact hS5.cell 1 rfl rfl) rfl ?_
  refine wl_guard rfl rfl (decide_eq_false h12) ?_
  refine wl_neq rfl rfl rfl ?_
  refine wl_pickF rfl (decide_eq_false h12) rfl rfl ?_
  refine wl_move rfl rfl ?_
  refine wl_splitD 66 rfl (fun h13 => ?_) (fun h13 => ?_)
  · skip
    exact absurd rfl h13
  refine wl_guard rfl rfl (decide_eq_false h13) ?_
  refine wl_fieldAddr rfl fo_38_4 rfl ?_
  refine wl_guard rfl rfl (decide_eq_false h13) ?_
  refine wl_load rfl ag_3 (by first | assumption | exact hS5.cell 0 rfl rfl | exact hS5.cell 1 rfl rfl) rfl ?_
  refine wl_guard rfl rfl (decide_eq_false h13) ?_
  refine wl_fieldAddr rfl fo_38_4 rfl ?_
  refine wl_guard rfl rfl (decide_eq_false h13) ?_
  refine wl_load rfl ag_3 (by first | assumption | exact hS5.cell 0 rfl rfl | exact hS5.cell 1 rfl rfl) rfl ?_
  refine wl_guard rfl rfl (decide_eq_false h13) ?_
  refine wl_neq rfl rfl rfl ?_
  refine wl_pickF rfl (decide_eq_false h13) rfl rfl ?_
  refine wl_move rfl rfl ?_
  refine wl_splitD 73 rfl (fun h14 => ?_) (fun h14 => ?_)
  · skip
    exact absurd rfl h14
  refine wl_guard rfl rfl (decide_eq_false h14) ?_
  refine wl_fieldAddr rfl fo_38_5 rfl ?_
  refine wl_guard rfl rfl (decide_eq_false h14) ?_
  refine wl_load rfl ag_3 (by first | assumption | exact hS5.cell 0 rfl rfl | exact hS5.cell 1 rfl rfl) rfl ?_
  refine wl_guard rfl rfl (decide_eq_false h14) ?_
  refine wl_fieldAddr rfl fo_38_5 rfl ?_
  refine wl_guard rfl rfl (decide_eq_false h14) ?_
  refine wl_load rfl ag_3 (by first | assumption | exact hS5.cell 0 rfl rfl | exact hS5.cell 1 rfl rfl) rfl ?_
  refine wl_guard rfl rfl (decide_eq_false h14) ?_
  refine wl_neq rfl rfl rfl ?_
  refine wl_pickF rfl (decide_eq_false h14) rfl rfl ?_
  refine wl_move rfl rfl ?_
  refine wl_splitD 80 rfl (fun h15 => ?_) (fun h15 => ?_)
  · skip
    exact absurd rfl h15
  refine wl_guard rfl rfl (decide_eq_false h15) ?_
  refine wl_fieldAddr rfl fo_38_6 rfl ?_
  refine wl_guard rfl rfl (decide_eq_false h15) ?_
  refine wl_load rfl ag_3 (by first | assumption | exact hS5.cell 0 rfl rfl | exact hS5.cell 1 rfl rfl) rfl ?_
  refine wl_guard rfl rfl (decide_eq_false h15) ?_
  refine wl_fieldAddr rfl fo_38_6 rfl ?_
  refine wl_guard rfl rfl (decide_eq_false h15) ?_
  refine wl_load rfl ag_3 (by first | assumption | exact hS5.cell 0 rfl rfl | exact hS5.cell 1 rfl rfl) rfl ?_
  refine wl_guard rfl rfl (decide_eq_false h15) ?_
  refine wl_neq rfl rfl rfl ?_
  refine wl_pickF rfl (decide_eq_false h15) rfl rfl ?_
  refine wl_move rfl rfl ?_
  refine wl_splitD 87 rfl (fun h16 => ?_) (fun h16 => ?_)
  · skip
    exact absurd rfl h16
  refine wl_guard rfl rfl (decide_eq_false h16) ?_
  refine wl_fieldAddr rfl fo_38_7 rfl ?_
  refine wl_guard rfl rfl (decide_eq_false h16) ?_
  refine wl_load rfl ag_3 (by first | assumption | exact hS5.cell 0 rfl rfl | exact hS5.cell 1 rfl rfl) rfl ?_
  refine wl_guard rfl rfl (decide_eq_false h16) ?_
  refine wl_fieldAddr rfl fo_38_7 rfl ?_
  refine wl_guard rfl rfl (decide_eq_false h16) ?_
  refine wl_load rfl ag_3 (by first | assumption | exact hS5.cell 0 rfl rfl | exact hS5.cell 1 rfl rfl) rfl ?_
  refine wl_guard rfl rfl (decide_eq_false h16) ?_
  refine wl_neq rfl rfl rfl ?_
  refine wl_pickF rfl (decide_eq_false h16) rfl rfl ?_
  refine wl_move rfl rfl ?_
  refine wl_splitD 94 rfl (fun h17 => ?_) (fun h17 => ?_)
  · skip
    exact absurd rfl h17
  refine wl_guard rfl rfl (decide_eq_false h17) ?_
  refine wl_fieldAddr rfl fo_38_8 rfl ?_
  refine wl_guard rfl rfl (decide_eq_false h17) ?_
  refine wl_load rfl ag_3 (by first | assumption | exact hS5.cell 0 rfl rfl | exact hS5.cell 1 rfl rfl) rfl ?_
  refine wl_guard rfl rfl (decide_eq_false h17) ?_
  refine wl_fieldAddr rfl fo_38_8 rfl ?_
  refine wl_guard rfl rfl (decide_eq_false h17) ?_
  refine wl_load rfl ag_3 (by first | assumption | exact hS5.cell 0 rfl rfl | exact hS5.cell 1 rfl rfl) rfl ?_
  refine wl_guard rfl rfl (decide_eq_false h17) ?_
  refine wl_neq rfl rfl rfl ?_
  refine wl_pickF rfl (decide_eq_false h17) rfl rfl ?_
  refine wl_move rfl rfl ?_
  refine wl_splitD 101 rfl (fun h18 => ?_) (fun h18 => ?_)
  · skip
    exact absurd rfl h18
  refine wl_guard rfl rfl (decide_eq_false h18) ?_
  refine wl_fieldAddr rfl fo_38_9 rfl ?_
  refine wl_guard rfl rfl (decide_eq_false h18) ?_
  refine wl_load rfl ag_3 (by first | assumption | exact hS5.cell 0 rfl rfl | exact hS5.cell 1 rfl rfl) rfl ?_
  refine wl_guard rfl rfl (decide_eq_false h18) ?_
  refine wl_fieldAddr rfl fo_38_9 rfl ?_
  refine wl_guard rfl rfl (decide_eq_false h18) ?_
  refine wl_load rfl ag_3 (by first | assumption | exact hS5.cell 0 rfl rfl | exact hS5.cell 1 rfl rfl) rfl ?_
  refine wl_guard rfl rfl (decide_eq_false h18) ?_
  refine wl_neq rfl rfl rfl ?_
  refine wl_pickF rfl (decide_eq_false h18) rfl rfl ?_
  refine wl_nil ?_
  refine qs_seq ?_
  refine wc_sub (L' := [(107, _), (4, _), (3, _), (2, _)]) (.cons rfl (.cons rfl (.cons rfl (.cons rfl .nil)))) ?_
  refine wc_condD rfl (fun h19 => ?_) (fun h19 => ?_)
  · skip
    exact absurd rfl h19
  refine wc_skip ?_
  refine qs_seq ?_
  refine wc_seq ?_
  refine wc_region ?_
  refine wl_fieldAddr rfl fo_38_13 rfl ?_
  refine wl_load rfl ag_9 (by first | assumption | exact hS5.cell 0 rfl rfl | exact hS5.cell 1 rfl rfl) rfl ?_
  refine wl_fieldAddr rfl fo_38_13 rfl ?_
  refine wl_load rfl ag_9 (by first | assumption | exact hS5.cell 0 rfl rfl | exact hS5.cell 1 rfl rfl) rfl ?_
  refine wl_eqlS rfl rfl rfl ?_
  refine wl_move rfl rfl ?_
  refine wl_splitD 113 rfl (fun h20 => ?_) (fun h20 => ?_)
  · skip
    refine wl_guard rfl rfl (decide_eq_true h20) ?_
    refine wl_fieldAddr rfl fo_38_14 rfl ?_
    refine wl_guard rfl rfl (decide_eq_true h20) ?_
    refine wl_load rfl ag_3 (by first | assumption | exact hS5.cell 0 rfl rfl | exact hS5.cell 1 rfl rfl) rfl ?_
    refine wl_guard rfl rfl (decide_eq_true h20) ?_
    refine wl_fieldAddr rfl fo_38_14 rfl ?_
    refine wl_guard rfl rfl (decide_eq_true h20) ?_
    refine wl_load rfl ag_3 (by first | assumption | exact hS5.cell 0 rfl rfl | exact hS5.cell 1 rfl rfl) rfl ?_
    refine wl_guard rfl rfl (decide_eq_true h20) ?_
    refine wl_eql rfl rfl rfl ?_
    refine wl_pickT rfl (decide_eq_true h20) rfl rfl ?_
    refine wl_move rfl rfl ?_
    refine wl_splitD 120 rfl (fun h21 => ?_) (fun h21 => ?_)
    · skip
      refine wl_guard rfl rfl (decide_eq_true h21) ?_
      refine wl_fieldAddr rfl fo_38_15 rfl ?_
      refine wl_guard rfl rfl (decide_eq_true h21) ?_
      refine wl_load rfl ag_3 (by first | assumption | exact hS5.cell 0 rfl rfl | exact hS5.cell 1 rfl rfl) rfl ?_
      refine wl_guard rfl rfl (decide_eq_true h21) ?_
      refine wl_fieldAddr rfl fo_38_15 rfl ?_
      refine wl_guard rfl rfl (decide_eq_true h21) ?_
      refine wl_load rfl ag_3 (by first | assumption | exact hS5.cell 0 rfl rfl | exact hS5.cell 1 rfl rfl) rfl ?_
      refine wl_guard rfl rfl (decide_eq_true h21) ?_
      refine wl_eql rfl rfl rfl ?_
      refine wl_pickT rfl (decide_eq_true h21) rfl rfl ?_
      refine wl_move rfl rfl ?_
      refine wl_splitD 127 rfl (fun h22 => ?_) (fun h22 => ?_)
      · skip
        refine wl_guard rfl rfl (decide_eq_true h22) ?_
        refine wl_fieldAddr rfl fo_38_18 rfl ?_
        refine wl_guard rfl rfl (decide_eq_true h22) ?_
        refine wl_load rfl ag_3 (by first | assumption | exact hS5.cell 0 rfl rfl | exact hS5.cell 1 rfl rfl) rfl ?_
        refine wl_guard rfl rfl (decide_eq_true h22) ?_
        refine wl_fieldAddr rfl fo_38_18 rfl ?_
        refine wl_guard rfl rfl (decide_eq_true h22) ?_
        refine wl_load rfl ag_3 (by first | assumption | exact hS5.cell 0 rfl rfl | exact hS5.cell 1 rfl rfl) rfl ?_
        refine wl_guard rfl rfl (decide_eq_true h22) ?_
        refine wl_eql rfl rfl rfl ?_
        refine wl_pickT rfl (decide_eq_true h22) rfl rfl ?_
        refine wl_move rfl rfl ?_
        refine wl_splitD 134 rfl (fun h23 => ?_) (fun h23 => ?_)
        · skip
          refine wl_guard rfl rfl (decide_eq_true h23) ?_
          refine wl_fieldAddr rfl fo_38_19 rfl ?_
          refine wl_guard rfl rfl (decide_eq_true h23) ?_
          refine wl_load rfl ag_9 (by first | assumption | exact hS5.cell 0 rfl rfl | exact hS5.cell 1 rfl rfl) rfl ?_
          refine wl_guard rfl rfl (decide_eq_true h23) ?_
          refine wl_fieldAddr rfl fo_38_19 rfl ?_
          refine wl_guard rfl rfl (decide_eq_true h23) ?_
          refine wl_load rfl ag_9 (by first | assumption | exact hS5.cell 0 rfl rfl | exact hS5.cell 1 rfl rfl) rfl ?_
          refine wl_guard rfl rfl (decide_eq_true h23) ?_
          refine wl_eqlS rfl rfl rfl ?_
          refine wl_pickT rfl (decide_eq_true h23) rfl rfl ?_
          refine wl_assign rfl rfl ?_
          refine wl_nil ?_
          refine qs_seq ?_
          refine wc_sub (L' := [(4, _)]) (.cons rfl .nil) ?_
          refine wc_ret ?_
          refine fin1 (.inr rfl) rfl rfl ?_
          exact ⟨_, rfl, by simp, hS5.pick [2] rfl⟩
        exact absurd rfl h23
      exact absurd rfl h22
    exact absurd rfl h21
  exact absurd rfl h20
def x0 (x : ProcD) : ProcD := ⟨x.hs, [], [], x.cwd, x.ts, x.shl⟩
theorem x0_wf {x : ProcD} (h : WFR x) : WFR (x0 x) := ⟨h.hl, h.hi, h.tl, h.ti, h.fl, fun _ hx => (by cases hx), Nat.zero_le _, fun _ hx => (by cases hx), Nat.zero_le _, h.cwd, h.shl⟩
theorem x0_len {x : ProcD} : (encR (x0 x)).length ≤ (encR x).length + 60 := by
  have h1 := encR_len x
  have h2 := encR_len (x0 x)
  have e1 : (encN (((x0 x).ar.length : Nat) : Int)).length ≤ 30 := encN_len (n := ((0 : Nat) : Int)) (by unfold inI; omega)
  have e2 : ((x0 x).ar.flatMap encAr).length = 0 := rfl
  have e3 : (encTs (x0 x).fds).length ≤ 22 := by
    have := (itoa_len (n := ((0 : Nat) : Int)) (by unfold inI; omega)).1
    show (Lib.itoa ((0 : Nat) : Int) ++ [91] ++ [] ++ [93]).length ≤ 22
    simp only [List.length_append, List.length_cons, List.length_nil]; omega
  have e4 : (x0 x).hs = x.hs ∧ (x0 x).cwd = x.cwd ∧ (x0 x).ts = x.ts ∧ (x0 x).shl = x.shl := ⟨rfl, rfl, rfl, rfl⟩
  rw [e4.1, e4.2.1, e4.2.2.1, e4.2.2.2] at h2
  omega
end Go.Proofs.YtcbdclhoekokpaaGreatDoor
