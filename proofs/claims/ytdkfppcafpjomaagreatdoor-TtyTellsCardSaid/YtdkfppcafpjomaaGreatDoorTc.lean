/- laws of tty: small, Same -/
import Derived.Test.YtdkfppcafpjomaaGreatDoorTa
import Derived.Laws.StructEq
namespace Go.Proofs.YtdkfppcafpjomaaGreatDoor
open Go.RowKit M
set_option linter.unusedVariables false
section
variable {P : Program} {n : Nat} {ops : Array Oper} {Q : Exit → Act → World → Prop} {rest : List Oper} {L : Env} {w : World} {d : Nat} {ty : TypeId} {pos : String} {aft : Array Edge} {As : List Th}
theorem ev_neqAgg {t t2 : Nat} {x y : Operand} {xs ys : Array Value} {b : Bool} (h : ∀ w, (Op.equal t (.agg xs) (.agg ys)).run P w = .ok b w) (hg : P.eqGuardType P.depth t = false) (hx : M.look L x = some (.agg xs)) (hy : M.look L y = some (.agg ys)) : Ev P L w ⟨some d, .binOp .neq t x y t2, ty, pos, aft, none⟩ (.bool (!b)) := fun ρ hρ => by
  have h := h w
  simp [execOp, hρ _ _ hx, hρ _ _ hy, eqGuard, binOp, program, Sem.run, hg] at h ⊢
  rw [h]
  rfl
end
theorem rdl_at {α : Type} {C : RowC α} {b off n cap i j : Nat} {l : List α} {a : α} {u : Value} {w : World} (h : RdL C (.slice (some ⟨b, off, none⟩) n cap) l w) (ha : l[i]? = some a) (hu : (C.enc a)[j]? = some u) : w.cell? ⟨b, off + i * C.size + j, none⟩ = some u := by
  obtain ⟨_, _, he, hc⟩ := h.get ha
  cases he
  exact hc j u hu
theorem eqItem (x y : ItemD) (w : World) : (Op.equal 49 (.agg #[intV x.a, intV x.k, strV x.t]) (.agg #[intV y.a, intV y.k, strV y.t])).run Tryz.prog w = .ok (decide (x.a = y.a ∧ x.k = y.k ∧ x.t = y.t)) w := by
  have u3 := Tryz.underlying3
  have a3 : aggB Tryz.prog 3 = some false := by kernel_rfl
  have u9 := Tryz.underlying9
  have a9 : aggB Tryz.prog 9 = some false := by kernel_rfl
  have hS : Tryz.prog.underlying 49 = some (.struct (Tryz.prog.fieldsOf 49)) := by kernel_rfl
  have hp : Tryz.prog.stoodInHeld 49 = false := by kernel_rfl
  unfold Op.equal Op.maxDepth
  generalize hN : (10000 : Nat) = N
  obtain ⟨m, rfl⟩ : ∃ m, N = m + 1 + 1 := ⟨9998, by omega⟩
  rw [run_equalIn_struct w (m + 1) 49 _ _ hS hp]
  have q0 := fun w => run_part1 (P := Tryz.prog) a3 #[intV x.a, intV x.k, strV x.t] 0 _ rfl w
  have q1 := fun w => run_part1 (P := Tryz.prog) a3 #[intV x.a, intV x.k, strV x.t] 1 _ rfl w
  have q2 := fun w => run_part1 (P := Tryz.prog) a9 #[intV x.a, intV x.k, strV x.t] 2 _ rfl w
  have r0 := fun w => run_part1 (P := Tryz.prog) a3 #[intV y.a, intV y.k, strV y.t] 0 _ rfl w
  have r1 := fun w => run_part1 (P := Tryz.prog) a3 #[intV y.a, intV y.k, strV y.t] 1 _ rfl w
  have r2 := fun w => run_part1 (P := Tryz.prog) a9 #[intV y.a, intV y.k, strV y.t] 2 _ rfl w
  simp only [Program.fieldsOf, Tryz.underlying49, Op.eqFields, Sem.run_bind, q0, q1, q2, r0, r1, r2, Result.andThen_ok, run_equalIn_string _ _ _ _ _ u9, run_equalIn_int _ _ _ _ _ _ _ u3, Sem.run_ite, Sem.run_pure]
  by_cases h0 : x.a = y.a <;> by_cases h1 : x.k = y.k <;> by_cases h2 : x.t = y.t <;> simp [h0, h1, h2, run_equalIn_string _ _ _ _ _ u9, run_equalIn_int _ _ _ _ _ _ _ u3]
theorem item_eq {x y : ItemD} : (x.a = y.a ∧ x.k = y.k ∧ x.t = y.t) ↔ x = y := by
  cases x; cases y; simp
theorem same_endI {l1 l2 : List ItemD} {i : Nat} (h : ∀ j, j < i → l1[j]? = l2[j]?) (h1 : i = l1.length) (h2 : l1.length = l2.length) : l1 = l2 := by
  apply List.ext_getElem?
  intro j
  by_cases hj : j < i
  · exact h j hj
  · rw [List.getElem?_eq_none (by omega), List.getElem?_eq_none (by omega)]
set_option maxRecDepth 100000 in
theorem sameI_sp {w : World} {F : Th} (hS : Sat w [F]) {v1 v2 : Value} {l1 l2 : List ItemD} (hA : Ent F (RdL itC v1 l1)) (hB : Ent F (RdL itC v2 l2)) :
    Calls Tryz.prog 11 #[v1, v2] w (Ret fun v w' => v = .bool (decide (l1 = l2)) ∧ Sat w' [F]) := by
  obtain ⟨ao1, cap1, rfl, hm1⟩ := (hA.sat hS 0 rfl).shape
  obtain ⟨ao2, cap2, rfl, hm2⟩ := (hB.sat hS 0 rfl).shape
  refine calls_enter Tryz.func11 rfl Tryz.ntmps11 rfl ?_
  refine wc_seq ?_
  refine wc_region ?_
  refine wl_assign rfl rfl ?_
  refine wl_nil ?_
  refine qs_seq ?_
  refine wc_seq ?_
  refine wc_seq ?_
  refine wc_region ?_
  refine wl_move rfl rfl ?_
  refine wl_lenL Tryz.underlying34 rfl rfl ?_
  refine wl_move rfl rfl ?_
  refine wl_lenL Tryz.underlying34 rfl rfl ?_
  refine wl_neq rfl rfl rfl ?_
  refine wl_nil ?_
  refine qs_seq ?_
  refine wc_condD rfl (fun h1 => ?_) (fun h1 => ?_)
  · skip
    refine wc_seq ?_
    refine wc_region ?_
    refine wl_assign rfl rfl ?_
    refine wl_nil ?_
    refine qs_seq ?_
    refine wc_ret ?_
    refine qs_then_ret ?_
    refine fin1 (.inr rfl) rfl rfl ?_
    exact ⟨_, rfl, by rw [decide_eq_false (by rintro rfl; omega)], hS⟩
  · skip
    refine wc_skip ?_
    refine qs_seq ?_
    refine wc_seq ?_
    refine wc_seq ?_
    refine wc_region ?_
    refine wl_assign rfl rfl ?_
    refine wl_nil ?_
    refine qs_seq ?_
    refine wc_block ?_
    refine wc_loop (fun K0 E0 W0 => ∃ (i : Nat), K0 = l1.length - i ∧ E0 = [(0, .slice ao1 l1.length cap1), (1, .slice ao2 l2.length cap2), (5, intV (i : Int))] ∧ Sat W0 [F] ∧ (i ≤ l1.length) ∧ (∀ j, j < i → l1[j]? = l2[j]?)) (L0 := [(0, _), (1, _), (5, _)]) (l1.length - 0) (.cons rfl (.cons rfl (.cons rfl .nil))) ⟨0, rfl, rfl, hS, by omega, by omega⟩ ?_
    rintro _ _ w2 ⟨i, rfl, rfl, hS2, hi, hok⟩
    refine wc_seq ?_
    refine wc_seq ?_
    refine wc_region ?_
    refine wl_move rfl rfl ?_
    refine wl_move rfl rfl ?_
    refine wl_lenL Tryz.underlying34 rfl rfl ?_
    refine wl_lss rfl rfl rfl ?_
    refine wl_nil ?_
    refine qs_seq ?_
    refine wc_condD rfl (fun h3 => ?_) (fun h3 => ?_)
    · skip
      obtain ⟨x, ha⟩ : ∃ s, l1[i]? = some s := ⟨_, List.getElem?_eq_getElem (by omega)⟩
      obtain ⟨y, hb⟩ : ∃ s, l2[i]? = some s := ⟨_, List.getElem?_eq_getElem (by omega)⟩
      obtain ⟨b1, off1, rfl, hc1⟩ := (hA.sat hS2 0 rfl).get ha
      obtain ⟨b2, off2, rfl, hc2⟩ := (hB.sat hS2 0 rfl).get hb
      refine wc_skip ?_
      refine qs_seq ?_
      refine wc_seq ?_
      refine wc_block ?_
      refine wc_seq ?_
      have hS4 := hS2.drew
      refine wc_draw [0, 1, 2, 3, 4, 5, 6, 7, 8] [] mix (by kernel_rfl) ?_
      refine vc_p rfl rfl rfl (fun _ => (ev_move rfl)) ?_
      refine vc_p rfl rfl rfl (fun _ => (ev_move rfl)) ?_
      refine vc_p rfl rfl rfl (fun _ => (ev_indexAddr i rfl rfl (by first | rfl | omega) (by exact (List.getElem?_eq_some_iff.1 ha).1) es_34)) ?_
      refine vc_q rfl rfl rfl (ev_loadAt rfl ag_49 sz_49 (vs := itV x) hc1) ?_
      refine vc_p rfl rfl rfl (fun _ => (ev_move rfl)) ?_
      refine vc_p rfl rfl rfl (fun _ => (ev_move rfl)) ?_
      refine vc_p rfl rfl rfl (fun _ => (ev_indexAddr i rfl rfl (by first | rfl | omega) (by exact (List.getElem?_eq_some_iff.1 hb).1) es_34)) ?_
      refine vc_q rfl rfl rfl (ev_loadAt rfl ag_49 sz_49 (vs := itV y) hc2) ?_
      refine vc_p rfl rfl rfl (fun _ => (ev_neqAgg (eqItem x y) (by kernel_rfl) rfl rfl)) ?_
      refine VC.nil ?_
      refine qs_seq ?_
      refine wc_sub (L' := [(25, _), (0, _), (1, _), (5, _)]) (.cons rfl (.cons rfl (.cons rfl (.cons rfl .nil)))) ?_
      refine wc_cond rfl (fun h5 => ?_) (fun h5 => ?_)
      · skip
        have hne := h5
        refine wc_seq ?_
        refine wc_region ?_
        refine wl_assign rfl rfl ?_
        refine wl_nil ?_
        refine qs_seq ?_
        refine wc_ret ?_
        refine qs_block_ret ?_
        refine qs_then_ret ?_
        refine qs_then_ret ?_
        refine qs_block_ret ?_
        refine qs_then_ret ?_
        refine fin1 (.inr rfl) rfl rfl ?_
        exact ⟨_, rfl, by rw [decide_eq_false (by rintro rfl; rw [ha] at hb; cases hb; simp at hne)], hS4⟩
      · skip
        have heq := h5
        refine wc_skip ?_
        refine qs_block_normal ?_
        refine qs_seq ?_
        refine wc_region ?_
        refine wl_move rfl rfl ?_
        refine wl_add rfl rfl (by omega) (by omega) rfl ?_
        refine wl_assign rfl rfl ?_
        refine wl_nil ?_
        exact qs_round (L1 := [(0, _), (1, _), (5, intV ((i + 1 : Nat) : Int))]) (.cons rfl (.cons rfl (.cons rfl .nil))) (k1 := l1.length - (i + 1)) (by omega) ⟨i + 1, rfl, rfl, hS4, by omega, fun j hj => by by_cases e : j = i; (subst e; rw [ha, hb, (item_eq (x := x) (y := y)).1 (by simpa using heq)]); exact hok j (by omega)⟩
    · skip
      refine wc_exit ?_
      refine qs_then_exit ?_
      refine qs_then_exit ?_
      refine qs_block_exit ?_
      refine qs_seq ?_
      refine wc_seq ?_
      refine wc_region ?_
      refine wl_assign rfl rfl ?_
      refine wl_nil ?_
      refine qs_seq ?_
      refine wc_ret ?_
      refine fin1 (.inr rfl) rfl rfl ?_
      exact ⟨_, rfl, by rw [decide_eq_true (same_endI hok (by omega) (by omega))], hS2⟩

def exL : List ItemD := [⟨5, 0, [97, 98]⟩, ⟨6, 2, []⟩, ⟨7, 1, []⟩]
set_option maxRecDepth 100000 in
set_option maxHeartbeats 1000000 in
theorem tsmall_sp {w : World} {F : Th} (hS : Sat w [F]) (hG : Ent F WireG) :
    Calls Tryz.prog 4 #[] w (Ret fun v w' => v = .bool true ∧ Sat w' [F]) := by
  refine calls_enter Tryz.func4 rfl Tryz.ntmps4 rfl ?_
  refine wc_seq ?_
  refine wc_region ?_
  refine wl_assign rfl rfl ?_
  refine wl_nil ?_
  refine qs_seq ?_
  refine wc_seq ?_
  refine wc_region ?_
  have hC1 := hS.split [] [false] rfl; dsimp only [selF, pickA, nthA, List.cons_append, List.nil_append] at hC1
  refine wl_call cal_5 rfl (new_sp hC1) rfl ?_
  rintro e w1 ⟨_, rfl, p, rfl, hS1⟩; refine ⟨_, rfl, ?_⟩
  replace hS1 := hS1.join rfl; dsimp only [List.dropLast, List.cons_append, List.nil_append] at hS1; clear hC1
  refine wl_assign rfl rfl ?_
  refine wl_nil ?_
  refine qs_seq ?_
  refine wc_seq ?_
  refine wc_seq ?_
  refine wc_region ?_
  refine wl_move rfl rfl ?_
  refine wl_eqlNil Tryz.underlying24 rfl rfl rfl ?_
  refine wl_nil ?_
  refine qs_seq ?_
  refine wc_condF rfl ?_
  refine wc_skip ?_
  refine qs_seq ?_
  refine wc_seq ?_
  refine wc_region ?_
  refine wl_move rfl rfl ?_
  refine wl_makeIface nif_24 rfl rfl ?_
  refine wl_buildS rfl pl_49_0_2 asz_49 zr_49 rfl rfl ?_
  refine wl_buildS rfl pl_49_0_1 asz_49 zr_49 rfl rfl ?_
  refine wl_buildS rfl pl_49_0_1 asz_49 zr_49 rfl rfl ?_
  refine wl_rowBuild itC exL hS1 rfl Tryz.underlying34 ifz_49 rfl rfl rfl rfl (by first | rfl | simp [RowC.cells, fillL, splice]) rfl ?_
  intro b2 w2 hS2
  clear hS1
  have hC3 := hS2.split [1] [false, true, false] rfl; dsimp only [selF, pickA, nthA, List.cons_append, List.nil_append] at hC3
  refine wl_call cal_21 rfl (fill_sp hC3 (hG.starL 1 rfl) (Ent.starL (ent_row (C := itC) (l := exL) (by decide)) 0 rfl) (by decide)) rfl ?_
  rintro e w3 ⟨_, rfl, rfl, hS3⟩; refine ⟨_, rfl, ?_⟩
  replace hS3 := hS3.join rfl; dsimp only [List.dropLast, List.cons_append, List.nil_append] at hS3; clear hC3
  clear hS2
  have hB1 := TB.empty.fill exL
  have hT1 := TI.fill (W := emptyW) (l := exL) (by decide)
  generalize fillW emptyW exL = W1 at hB1 hT1 hS3
  refine wl_nil ?_
  refine qs_seq ?_
  refine wc_sub (L' := [(1, _), (0, _)]) (.cons rfl (.cons rfl .nil)) ?_
  refine wc_seq ?_
  refine wc_region ?_
  refine wl_move rfl rfl ?_
  refine wl_makeIface nif_24 rfl rfl ?_
  have hC4 := hS3.split [0] [true, false, false] rfl; dsimp only [selF, pickA, nthA, List.cons_append, List.nil_append] at hC4
  refine wl_call cal_22 rfl (readT_sp hC4 (hG.starL 1 rfl) hB1 4 9) rfl ?_
  rintro e w4 ⟨_, rfl, rfl, hS4⟩; refine ⟨_, rfl, ?_⟩
  replace hS4 := hS4.join rfl; dsimp only [List.dropLast, List.cons_append, List.nil_append] at hS4; clear hC4
  clear hS3
  have x2 : readX exL 0 [] 4 9 = (([], 2), 0, []) := by decide
  have e2 : readTV W1 4 9 = ([], 2) := by rw [hT1.readV, x2]
  rw [e2]
  have hB2 := hB1.read 4 9
  have hT2 := hT1.read 4 9
  rw [x2] at hT2
  generalize readTW W1 4 9 = W2 at hB2 hT2 hS4
  refine wl_move rfl rfl ?_
  refine wl_extract rfl rfl rfl ?_
  refine wl_extract rfl rfl rfl ?_
  refine wl_assign rfl rfl ?_
  refine wl_assign rfl rfl ?_
  refine wl_nil ?_
  refine qs_seq ?_
  refine wc_seq ?_
  refine wc_region ?_
  refine wl_move rfl rfl ?_
  refine wl_makeIface nif_24 rfl rfl ?_
  have hC5 := hS4.split [0] [true, false, false] rfl; dsimp only [selF, pickA, nthA, List.cons_append, List.nil_append] at hC5
  refine wl_call cal_22 rfl (readT_sp hC5 (hG.starL 1 rfl) hB2 7 2) rfl ?_
  rintro e w5 ⟨_, rfl, rfl, hS5⟩; refine ⟨_, rfl, ?_⟩
  replace hS5 := hS5.join rfl; dsimp only [List.dropLast, List.cons_append, List.nil_append] at hS5; clear hC5
  clear hS4
  have x3 : readX exL 0 [] 7 2 = (([97, 98], 0), 1, [10]) := by decide
  have e3 : readTV W2 7 2 = ([97, 98], 0) := by rw [hT2.readV, x3]
  rw [e3]
  have hB3 := hB2.read 7 2
  have hT3 := hT2.read 7 2
  rw [x3] at hT3
  generalize readTW W2 7 2 = W3 at hB3 hT3 hS5
  refine wl_move rfl rfl ?_
  refine wl_extract rfl rfl rfl ?_
  refine wl_extract rfl rfl rfl ?_
  refine wl_assign rfl rfl ?_
  refine wl_assign rfl rfl ?_
  refine wl_nil ?_
  refine qs_seq ?_
  refine wc_sub (L' := [(5, _), (4, _), (3, _), (1, _), (0, _)]) (.cons rfl (.cons rfl (.cons rfl (.cons rfl (.cons rfl .nil))))) ?_
  refine wc_seq ?_
  refine wc_region ?_
  refine wl_move rfl rfl ?_
  refine wl_makeIface nif_24 rfl rfl ?_
  have hC6 := hS5.split [0] [true, false, false] rfl; dsimp only [selF, pickA, nthA, List.cons_append, List.nil_append] at hC6
  refine wl_call cal_22 rfl (readT_sp hC6 (hG.starL 1 rfl) hB3 7 9) rfl ?_
  rintro e w6 ⟨_, rfl, rfl, hS6⟩; refine ⟨_, rfl, ?_⟩
  replace hS6 := hS6.join rfl; dsimp only [List.dropLast, List.cons_append, List.nil_append] at hS6; clear hC6
  clear hS5
  have x4 : readX exL 1 [10] 7 9 = (([10], 0), 1, []) := by decide
  have e4 : readTV W3 7 9 = ([10], 0) := by rw [hT3.readV, x4]
  rw [e4]
  have hB4 := hB3.read 7 9
  have hT4 := hT3.read 7 9
  rw [x4] at hT4
  generalize readTW W3 7 9 = W4 at hB4 hT4 hS6
  refine wl_move rfl rfl ?_
  refine wl_extract rfl rfl rfl ?_
  refine wl_extract rfl rfl rfl ?_
  refine wl_assign rfl rfl ?_
  refine wl_assign rfl rfl ?_
  refine wl_nil ?_
  refine qs_seq ?_
  refine wc_sub (L' := [(7, _), (6, _), (5, _), (4, _), (3, _), (1, _), (0, _)]) (.cons rfl (.cons rfl (.cons rfl (.cons rfl (.cons rfl (.cons rfl (.cons rfl .nil))))))) ?_
  refine wc_seq ?_
  refine wc_region ?_
  refine wl_move rfl rfl ?_
  refine wl_makeIface nif_24 rfl rfl ?_
  have hC7 := hS6.split [0] [true, false, false] rfl; dsimp only [selF, pickA, nthA, List.cons_append, List.nil_append] at hC7
  refine wl_call cal_22 rfl (readT_sp hC7 (hG.starL 1 rfl) hB4 7 9) rfl ?_
  rintro e w7 ⟨_, rfl, rfl, hS7⟩; refine ⟨_, rfl, ?_⟩
  replace hS7 := hS7.join rfl; dsimp only [List.dropLast, List.cons_append, List.nil_append] at hS7; clear hC7
  clear hS6
  have x5 : readX exL 1 [] 7 9 = (([], 1), 3, []) := by decide
  have e5 : readTV W4 7 9 = ([], 1) := by rw [hT4.readV, x5]
  rw [e5]
  have hB5 := hB4.read 7 9
  have hT5 := hT4.read 7 9
  rw [x5] at hT5
  generalize readTW W4 7 9 = W5 at hB5 hT5 hS7
  refine wl_move rfl rfl ?_
  refine wl_extract rfl rfl rfl ?_
  refine wl_extract rfl rfl rfl ?_
  refine wl_assign rfl rfl ?_
  refine wl_assign rfl rfl ?_
  refine wl_nil ?_
  refine qs_seq ?_
  refine wc_sub (L' := [(9, _), (7, _), (6, _), (5, _), (4, _), (3, _), (1, _), (0, _)]) (.cons rfl (.cons rfl (.cons rfl (.cons rfl (.cons rfl (.cons rfl (.cons rfl (.cons rfl .nil)))))))) ?_
  refine wc_seq ?_
  refine wc_region ?_
  refine wl_move rfl rfl ?_
  refine wl_makeIface nif_24 rfl rfl ?_
  have hC8 := hS7.split [0] [true, false, false] rfl; dsimp only [selF, pickA, nthA, List.cons_append, List.nil_append] at hC8
  refine wl_call cal_22 rfl (readT_sp hC8 (hG.starL 1 rfl) hB5 7 9) rfl ?_
  rintro e w8 ⟨_, rfl, rfl, hS8⟩; refine ⟨_, rfl, ?_⟩
  replace hS8 := hS8.join rfl; dsimp only [List.dropLast, List.cons_append, List.nil_append] at hS8; clear hC8
  clear hS7
  have x6 : readX exL 3 [] 7 9 = (([], 2), 3, []) := by decide
  have e6 : readTV W5 7 9 = ([], 2) := by rw [hT5.readV, x6]
  rw [e6]
  have hB6 := hB5.read 7 9
  have hT6 := hT5.read 7 9
  rw [x6] at hT6
  generalize readTW W5 7 9 = W6 at hB6 hT6 hS8
  refine wl_move rfl rfl ?_
  refine wl_extract rfl rfl rfl ?_
  refine wl_extract rfl rfl rfl ?_
  refine wl_assign rfl rfl ?_
  refine wl_assign rfl rfl ?_
  refine wl_nil ?_
  refine qs_seq ?_
  refine wc_sub (L' := [(11, _), (9, _), (7, _), (6, _), (5, _), (4, _), (3, _), (1, _), (0, _)]) (.cons rfl (.cons rfl (.cons rfl (.cons rfl (.cons rfl (.cons rfl (.cons rfl (.cons rfl (.cons rfl .nil))))))))) ?_
  refine wc_seq ?_
  refine wc_region ?_
  refine wl_move rfl rfl ?_
  refine wl_makeIface nif_24 rfl rfl ?_
  have hC9 := hS8.split [0] [true, false, false] rfl; dsimp only [selF, pickA, nthA, List.cons_append, List.nil_append] at hC9
  refine wl_call cal_23 rfl (due_sp hC9 (hG.starL 1 rfl) hB6 5) rfl ?_
  rintro e w9 ⟨_, rfl, rfl, hS9⟩; refine ⟨_, rfl, ?_⟩
  replace hS9 := hS9.join rfl; dsimp only [List.dropLast, List.cons_append, List.nil_append] at hS9; clear hC9
  clear hS8
  have x7 : dueX exL 0 5 = none := by decide
  have e7 : dueI W6 5 = none := by rw [hT6.dueI, x7]
  have d7 : dueD W6 5 = zeroI := by unfold dueD; rw [e7]; first | done | rfl | (rw [hT6.items]; rfl)
  rw [d7, e7]
  have hB7 := hB6.due 5
  have hT7 := hT6.due 5
  rw [x7] at hT7
  generalize dueW W6 5 = W7 at hB7 hT7 hS9
  refine wl_move rfl rfl ?_
  refine wl_extract rfl rfl rfl ?_
  refine wl_extract rfl rfl rfl ?_
  refine wl_alloc hS9 zr_49 rfl rfl ?_
  intro b10 w10 hS10
  clear hS9
  first | (refine wl_storeA hS10 rfl rfl sz_49 rfl (by first | rfl | (simp [allOne, Value.oneCell']; done) | assumption | exact hone) (i := 0) rfl (by first | decide | exact Nat.le_of_ble_eq_true rfl | (simp; done) | omega) ?_)
  intro w11 hS12; dsimp only [List.set] at hS12
  clear hS10
  refine wl_assign rfl rfl ?_
  refine wl_nil ?_
  refine qs_seq ?_
  refine wc_sub (L' := [(13, _), (11, _), (9, _), (7, _), (6, _), (5, _), (4, _), (3, _), (1, _), (0, _)]) (.cons rfl (.cons rfl (.cons rfl (.cons rfl (.cons rfl (.cons rfl (.cons rfl (.cons rfl (.cons rfl (.cons rfl .nil)))))))))) ?_
  refine wc_seq ?_
  refine wc_region ?_
  refine wl_move rfl rfl ?_
  refine wl_makeIface nif_24 rfl rfl ?_
  have hC13 := hS12.split [1] [false, true, false, false] rfl; dsimp only [selF, pickA, nthA, List.cons_append, List.nil_append] at hC13
  refine wl_call cal_23 rfl (due_sp hC13 (hG.starL 2 rfl) hB7 9) rfl ?_
  rintro e w13 ⟨_, rfl, rfl, hS13⟩; refine ⟨_, rfl, ?_⟩
  replace hS13 := hS13.join rfl; dsimp only [List.dropLast, List.cons_append, List.nil_append] at hS13; clear hC13
  clear hS12
  have x8 : dueX exL 0 9 = some 1 := by decide
  have e8 : dueI W7 9 = some 1 := by rw [hT7.dueI, x8]
  have d8 : dueD W7 9 = ⟨6, 2, []⟩ := by unfold dueD; rw [e8]; first | done | rfl | (rw [hT7.items]; rfl)
  rw [d8, e8]
  have hB8 := hB7.due 9
  have hT8 := hT7.due 9
  rw [x8] at hT8
  generalize dueW W7 9 = W8 at hB8 hT8 hS13
  refine wl_move rfl rfl ?_
  refine wl_extract rfl rfl rfl ?_
  refine wl_extract rfl rfl rfl ?_
  refine wl_alloc hS13 zr_49 rfl rfl ?_
  intro b14 w14 hS14
  clear hS13
  first | (refine wl_storeA hS14 rfl rfl sz_49 rfl (by first | rfl | (simp [allOne, Value.oneCell']; done) | assumption | exact hone) (i := 0) rfl (by first | decide | exact Nat.le_of_ble_eq_true rfl | (simp; done) | omega) ?_) | (refine wl_storeA hS14 rfl rfl sz_49 rfl (by first | rfl | (simp [allOne, Value.oneCell']; done) | assumption | exact hone) (i := 2) rfl (by first | decide | exact Nat.le_of_ble_eq_true rfl | (simp; done) | omega) ?_)
  intro w15 hS16; dsimp only [List.set] at hS16
  clear hS14
  refine wl_assign rfl rfl ?_
  refine wl_nil ?_
  refine qs_seq ?_
  refine wc_sub (L' := [(15, _), (14, _), (13, _), (11, _), (9, _), (7, _), (6, _), (5, _), (4, _), (3, _), (1, _), (0, _)]) (.cons rfl (.cons rfl (.cons rfl (.cons rfl (.cons rfl (.cons rfl (.cons rfl (.cons rfl (.cons rfl (.cons rfl (.cons rfl (.cons rfl .nil)))))))))))) ?_
  refine wc_seq ?_
  refine wc_region ?_
  refine wl_move rfl rfl ?_
  refine wl_makeIface nif_24 rfl rfl ?_
  have hC17 := hS16.split [1] [false, true, false, false, false] rfl; dsimp only [selF, pickA, nthA, List.cons_append, List.nil_append] at hC17
  refine wl_call cal_23 rfl (due_sp hC17 (hG.starL 3 rfl) hB8 9) rfl ?_
  rintro e w17 ⟨_, rfl, rfl, hS17⟩; refine ⟨_, rfl, ?_⟩
  replace hS17 := hS17.join rfl; dsimp only [List.dropLast, List.cons_append, List.nil_append] at hS17; clear hC17
  clear hS16
  have x9 : dueX exL 2 9 = none := by decide
  have e9 : dueI W8 9 = none := by rw [hT8.dueI, x9]
  have d9 : dueD W8 9 = zeroI := by unfold dueD; rw [e9]; first | done | rfl | (rw [hT8.items]; rfl)
  rw [d9, e9]
  have hB9 := hB8.due 9
  have hT9 := hT8.due 9
  rw [x9] at hT9
  generalize dueW W8 9 = W9 at hB9 hT9 hS17
  refine wl_move rfl rfl ?_
  refine wl_extract rfl rfl rfl ?_
  refine wl_extract rfl rfl rfl ?_
  refine wl_alloc hS17 zr_49 rfl rfl ?_
  intro b18 w18 hS18
  clear hS17
  first | (refine wl_storeA hS18 rfl rfl sz_49 rfl (by first | rfl | (simp [allOne, Value.oneCell']; done) | assumption | exact hone) (i := 0) rfl (by first | decide | exact Nat.le_of_ble_eq_true rfl | (simp; done) | omega) ?_) | (refine wl_storeA hS18 rfl rfl sz_49 rfl (by first | rfl | (simp [allOne, Value.oneCell']; done) | assumption | exact hone) (i := 2) rfl (by first | decide | exact Nat.le_of_ble_eq_true rfl | (simp; done) | omega) ?_) | (refine wl_storeA hS18 rfl rfl sz_49 rfl (by first | rfl | (simp [allOne, Value.oneCell']; done) | assumption | exact hone) (i := 3) rfl (by first | decide | exact Nat.le_of_ble_eq_true rfl | (simp; done) | omega) ?_)
  intro w19 hS20; dsimp only [List.set] at hS20
  clear hS18
  refine wl_assign rfl rfl ?_
  refine wl_nil ?_
  refine qs_seq ?_
  refine wc_sub (L' := [(17, _), (15, _), (14, _), (13, _), (11, _), (9, _), (7, _), (6, _), (5, _), (4, _), (3, _), (1, _), (0, _)]) (.cons rfl (.cons rfl (.cons rfl (.cons rfl (.cons rfl (.cons rfl (.cons rfl (.cons rfl (.cons rfl (.cons rfl (.cons rfl (.cons rfl (.cons rfl .nil))))))))))))) ?_
  refine wc_seq ?_
  refine wc_region ?_
  refine wl_move rfl rfl ?_
  refine wl_makeIface nif_24 rfl rfl ?_
  have hC21 := hS20.split [1] [false, true, false, false, false, false] rfl; dsimp only [selF, pickA, nthA, List.cons_append, List.nil_append] at hC21
  refine wl_call cal_24 rfl (nextAt_sp hC21 (hG.starL 4 rfl) hB9 5) rfl ?_
  rintro e w21 ⟨_, rfl, rfl, hS21⟩; refine ⟨_, rfl, ?_⟩
  replace hS21 := hS21.join rfl; dsimp only [List.dropLast, List.cons_append, List.nil_append] at hS21; clear hC21
  clear hS20
  rw [hT9.items, show nextAtF exL 5 = some 6 by decide]
  refine wl_move rfl rfl ?_
  refine wl_extract rfl rfl rfl ?_
  refine wl_extract rfl rfl rfl ?_
  refine wl_assign rfl rfl ?_
  refine wl_assign rfl rfl ?_
  refine wl_nil ?_
  refine qs_seq ?_
  refine wc_sub (L' := [(19, _), (18, _), (17, _), (15, _), (14, _), (13, _), (11, _), (9, _), (7, _), (6, _), (5, _), (4, _), (3, _), (1, _), (0, _)]) (.cons rfl (.cons rfl (.cons rfl (.cons rfl (.cons rfl (.cons rfl (.cons rfl (.cons rfl (.cons rfl (.cons rfl (.cons rfl (.cons rfl (.cons rfl (.cons rfl (.cons rfl .nil))))))))))))))) ?_
  refine wc_seq ?_
  refine wc_region ?_
  refine wl_move rfl rfl ?_
  refine wl_makeIface nif_24 rfl rfl ?_
  have hC22 := hS21.split [0] [true, false, false, false, false, false] rfl; dsimp only [selF, pickA, nthA, List.cons_append, List.nil_append] at hC22
  refine wl_call cal_24 rfl (nextAt_sp hC22 (hG.starL 4 rfl) hB9 7) rfl ?_
  rintro e w22 ⟨_, rfl, rfl, hS22⟩; refine ⟨_, rfl, ?_⟩
  replace hS22 := hS22.join rfl; dsimp only [List.dropLast, List.cons_append, List.nil_append] at hS22; clear hC22
  clear hS21
  rw [hT9.items, show nextAtF exL 7 = none by decide]
  refine wl_move rfl rfl ?_
  refine wl_extract rfl rfl rfl ?_
  refine wl_extract rfl rfl rfl ?_
  refine wl_assign rfl rfl ?_
  refine wl_assign rfl rfl ?_
  refine wl_nil ?_
  refine qs_seq ?_
  refine wc_sub (L' := [(21, _), (19, _), (18, _), (17, _), (15, _), (14, _), (13, _), (11, _), (9, _), (7, _), (6, _), (5, _), (4, _), (3, _), (0, _)]) (.cons rfl (.cons rfl (.cons rfl (.cons rfl (.cons rfl (.cons rfl (.cons rfl (.cons rfl (.cons rfl (.cons rfl (.cons rfl (.cons rfl (.cons rfl (.cons rfl (.cons rfl .nil))))))))))))))) ?_
  refine wc_seq ?_
  refine wc_region ?_
  refine wl_move rfl rfl ?_
  refine wl_eql rfl rfl rfl ?_
  refine wl_move rfl rfl ?_
  refine wl_splitD 95 rfl (fun h23 => ?_) (fun h23 => ?_)
  · skip
    refine wl_guard rfl rfl (decide_eq_true h23) ?_
    refine wl_move rfl rfl ?_
    refine wl_guard rfl rfl (decide_eq_true h23) ?_
    refine wl_eqlS rfl rfl rfl ?_
    refine wl_pickT rfl (decide_eq_true h23) rfl rfl ?_
    refine wl_move rfl rfl ?_
    refine wl_splitD 99 rfl (fun h24 => ?_) (fun h24 => ?_)
    · skip
      refine wl_guard rfl rfl (decide_eq_true h24) ?_
      refine wl_move rfl rfl ?_
      refine wl_guard rfl rfl (decide_eq_true h24) ?_
      refine wl_eql rfl rfl rfl ?_
      refine wl_pickT rfl (decide_eq_true h24) rfl rfl ?_
      refine wl_move rfl rfl ?_
      refine wl_splitD 103 rfl (fun h25 => ?_) (fun h25 => ?_)
      · skip
        refine wl_guard rfl rfl (decide_eq_true h25) ?_
        refine wl_move rfl rfl ?_
        refine wl_guard rfl rfl (decide_eq_true h25) ?_
        refine wl_eqlS rfl rfl rfl ?_
        refine wl_pickT rfl (decide_eq_true h25) rfl rfl ?_
        refine wl_move rfl rfl ?_
        refine wl_splitD 107 rfl (fun h26 => ?_) (fun h26 => ?_)
        · skip
          refine wl_guard rfl rfl (decide_eq_true h26) ?_
          refine wl_move rfl rfl ?_
          refine wl_guard rfl rfl (decide_eq_true h26) ?_
          refine wl_eql rfl rfl rfl ?_
          refine wl_pickT rfl (decide_eq_true h26) rfl rfl ?_
          refine wl_move rfl rfl ?_
          refine wl_splitD 111 rfl (fun h27 => ?_) (fun h27 => ?_)
          · skip
            refine wl_guard rfl rfl (decide_eq_true h27) ?_
            refine wl_move rfl rfl ?_
            refine wl_guard rfl rfl (decide_eq_true h27) ?_
            refine wl_eql rfl rfl rfl ?_
            refine wl_pickT rfl (decide_eq_true h27) rfl rfl ?_
            refine wl_move rfl rfl ?_
            refine wl_splitD 115 rfl (fun h28 => ?_) (fun h28 => ?_)
            · skip
              refine wl_guard rfl rfl (decide_eq_true h28) ?_
              refine wl_move rfl rfl ?_
              refine wl_guard rfl rfl (decide_eq_true h28) ?_
              refine wl_eql rfl rfl rfl ?_
              refine wl_pickT rfl (decide_eq_true h28) rfl rfl ?_
              refine wl_assign rfl rfl ?_
              refine wl_nil ?_
              refine qs_seq ?_
              refine wc_sub (L' := [(22, _), (21, _), (19, _), (18, _), (17, _), (15, _), (14, _), (13, _), (0, _)]) (.cons rfl (.cons rfl (.cons rfl (.cons rfl (.cons rfl (.cons rfl (.cons rfl (.cons rfl (.cons rfl .nil))))))))) ?_
              refine wc_seq ?_
              refine wc_region ?_
              refine wl_move rfl rfl ?_
              refine wl_move rfl rfl ?_
              refine wl_splitD 120 rfl (fun h29 => ?_) (fun h29 => ?_)
              · skip
                refine wl_guard rfl rfl (decide_eq_true h29) ?_
                refine wl_move rfl rfl ?_
                refine wl_guard rfl rfl (decide_eq_true h29) ?_
                refine wl_not rfl rfl ?_
                refine wl_pickT rfl (decide_eq_true h29) rfl rfl ?_
                refine wl_move rfl rfl ?_
                refine wl_split 124 rfl (fun h30 => ?_) (fun h30 => ?_)
                · skip
                  refine wl_guard rfl rfl h30 ?_
                  refine wl_move rfl rfl ?_
                  refine wl_pickT rfl h30 rfl rfl ?_
                  refine wl_move rfl rfl ?_
                  refine wl_split 127 rfl (fun h31 => ?_) (fun h31 => ?_)
                  · skip
                    refine wl_guard rfl rfl h31 ?_
                    refine wl_fieldAddr rfl fo_49_1 rfl ?_
                    refine wl_guard rfl rfl h31 ?_
                    refine wl_load rfl ag_3 (by first | assumption | exact hS22.cell 1 rfl rfl | exact hS22.cell 2 rfl rfl | exact hS22.cell 3 rfl rfl) rfl ?_
                    refine wl_guard rfl rfl h31 ?_
                    refine wl_eql rfl rfl rfl ?_
                    refine wl_pickT rfl h31 rfl rfl ?_
                    refine wl_move rfl rfl ?_
                    refine wl_splitD 132 rfl (fun h32 => ?_) (fun h32 => ?_)
                    · skip
                      refine wl_guard rfl rfl (decide_eq_true h32) ?_
                      refine wl_move rfl rfl ?_
                      refine wl_guard rfl rfl (decide_eq_true h32) ?_
                      refine wl_not rfl rfl ?_
                      refine wl_pickT rfl (decide_eq_true h32) rfl rfl ?_
                      refine wl_move rfl rfl ?_
                      refine wl_split 136 rfl (fun h33 => ?_) (fun h33 => ?_)
                      · skip
                        refine wl_guard rfl rfl h33 ?_
                        refine wl_move rfl rfl ?_
                        refine wl_guard rfl rfl h33 ?_
                        refine wl_eql rfl rfl rfl ?_
                        refine wl_pickT rfl h33 rfl rfl ?_
                        refine wl_move rfl rfl ?_
                        refine wl_splitD 140 rfl (fun h34 => ?_) (fun h34 => ?_)
                        · skip
                          refine wl_guard rfl rfl (decide_eq_true h34) ?_
                          refine wl_move rfl rfl ?_
                          refine wl_pickT rfl (decide_eq_true h34) rfl rfl ?_
                          refine wl_move rfl rfl ?_
                          refine wl_split 143 rfl (fun h35 => ?_) (fun h35 => ?_)
                          · skip
                            refine wl_guard rfl rfl h35 ?_
                            refine wl_move rfl rfl ?_
                            refine wl_guard rfl rfl h35 ?_
                            refine wl_not rfl rfl ?_
                            refine wl_pickT rfl h35 rfl rfl ?_
                            refine wl_assign rfl rfl ?_
                            refine wl_nil ?_
                            refine qs_seq ?_
                            refine wc_sub (L' := [(0, _)]) (.cons rfl .nil) ?_
                            refine wc_ret ?_
                            refine fin1 (.inr rfl) rfl rfl ?_
                            exact ⟨_, rfl, by first | rfl | decide | simp, hS22.pick [5] rfl⟩
                          · skip
                            first | exact absurd (by decide) h35 | exact absurd h35 (by decide)
                        · skip
                          first | exact absurd (by decide) h34 | exact absurd h34 (by decide)
                      · skip
                        first | exact absurd (by decide) h33 | exact absurd h33 (by decide)
                    · skip
                      first | exact absurd (by decide) h32 | exact absurd h32 (by decide)
                  · skip
                    first | exact absurd (by decide) h31 | exact absurd h31 (by decide)
                · skip
                  first | exact absurd (by decide) h30 | exact absurd h30 (by decide)
              · skip
                first | exact absurd (by decide) h29 | exact absurd h29 (by decide)
            · skip
              first | exact absurd (by decide) h28 | exact absurd h28 (by decide)
          · skip
            first | exact absurd (by decide) h27 | exact absurd h27 (by decide)
        · skip
          first | exact absurd (by decide) h26 | exact absurd h26 (by decide)
      · skip
        first | exact absurd (by decide) h25 | exact absurd h25 (by decide)
    · skip
      first | exact absurd (by decide) h24 | exact absurd h24 (by decide)
  · skip
    first | exact absurd (by decide) h23 | exact absurd h23 (by decide)

end Go.Proofs.YtdkfppcafpjomaaGreatDoor
