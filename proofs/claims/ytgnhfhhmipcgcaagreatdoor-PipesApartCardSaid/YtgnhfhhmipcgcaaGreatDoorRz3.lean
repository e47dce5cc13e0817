/- laws of pipes: PipesTell -/
import Derived.Test.YtgnhfhhmipcgcaaGreatDoorRz2
import Derived.Test.YtgnhfhhmipcgcaaGreatDoorWg
import Derived.Laws.StructEq
namespace Go.Proofs.YtgnhfhhmipcgcaaGreatDoor
open Go.RowKit M
set_option linter.unusedVariables false
theorem eqPipe (x y : PipeD) (w : World) : (Op.equal 39 (.agg #[strV x.d, intV x.r, intV x.w]) (.agg #[strV y.d, intV y.r, intV y.w])).run Tryz.prog w = .ok (decide (x.d = y.d ∧ x.r = y.r ∧ x.w = y.w)) w := by
  have u3 := Tryz.underlying3
  have a3 : aggB Tryz.prog 3 = some false := by kernel_rfl
  have u9 := Tryz.underlying9
  have a9 : aggB Tryz.prog 9 = some false := by kernel_rfl
  have hS : Tryz.prog.underlying 39 = some (.struct (Tryz.prog.fieldsOf 39)) := by kernel_rfl
  have hp : Tryz.prog.stoodInHeld 39 = false := by kernel_rfl
  unfold Op.equal Op.maxDepth
  generalize hN : (10000 : Nat) = N
  obtain ⟨m, rfl⟩ : ∃ m, N = m + 1 + 1 := ⟨9998, by omega⟩
  rw [run_equalIn_struct w (m + 1) 39 _ _ hS hp]
  have q0 := fun w => run_part1 (P := Tryz.prog) a9 #[strV x.d, intV x.r, intV x.w] 0 _ rfl w
  have q1 := fun w => run_part1 (P := Tryz.prog) a3 #[strV x.d, intV x.r, intV x.w] 1 _ rfl w
  have q2 := fun w => run_part1 (P := Tryz.prog) a3 #[strV x.d, intV x.r, intV x.w] 2 _ rfl w
  have r0 := fun w => run_part1 (P := Tryz.prog) a9 #[strV y.d, intV y.r, intV y.w] 0 _ rfl w
  have r1 := fun w => run_part1 (P := Tryz.prog) a3 #[strV y.d, intV y.r, intV y.w] 1 _ rfl w
  have r2 := fun w => run_part1 (P := Tryz.prog) a3 #[strV y.d, intV y.r, intV y.w] 2 _ rfl w
  simp only [Program.fieldsOf, Tryz.underlying39, Op.eqFields, Sem.run_bind, q0, q1, q2, r0, r1, r2, Result.andThen_ok, run_equalIn_string _ _ _ _ _ u9, run_equalIn_int _ _ _ _ _ _ _ u3, Sem.run_ite, Sem.run_pure]
  by_cases h0 : x.d = y.d <;> by_cases h1 : x.r = y.r <;> by_cases h2 : x.w = y.w <;> simp [h0, h1, h2, run_equalIn_string _ _ _ _ _ u9, run_equalIn_int _ _ _ _ _ _ _ u3]
theorem rdl_at {α : Type} {C : RowC α} {b off n cap i j : Nat} {l : List α} {a : α} {u : Value} {w : World} (h : RdL C (.slice (some ⟨b, off, none⟩) n cap) l w) (ha : l[i]? = some a) (hu : (C.enc a)[j]? = some u) : w.cell? ⟨b, off + i * C.size + j, none⟩ = some u := by
  obtain ⟨_, _, he, hc⟩ := h.get ha
  cases he
  exact hc j u hu
section
variable {P : Program} {n : Nat} {ops : Array Oper} {Q : Exit → Act → World → Prop} {rest : List Oper} {L : Env} {w : World} {d : Nat} {ty : TypeId} {pos : String} {aft : Array Edge} {As : List Th}
theorem ev_neqAgg {t t2 : Nat} {x y : Operand} {xs ys : Array Value} {b : Bool} (h : ∀ w, (Op.equal t (.agg xs) (.agg ys)).run P w = .ok b w) (hg : P.eqGuardType P.depth t = false) (hx : M.look L x = some (.agg xs)) (hy : M.look L y = some (.agg ys)) : Ev P L w ⟨some d, .binOp .neq t x y t2, ty, pos, aft, none⟩ (.bool (!b)) := fun ρ hρ => by
  have h := h w
  simp [execOp, hρ _ _ hx, hρ _ _ hy, eqGuard, binOp, program, Sem.run, hg] at h ⊢
  rw [h]
  rfl
end
theorem eqPipe_self (x : PipeD) (w : World) : (Op.equal 39 (.agg #[strV x.d, intV x.r, intV x.w]) (.agg #[strV x.d, intV x.r, intV x.w])).run Tryz.prog w = .ok true w := by
  rw [eqPipe x x w]; simp
theorem PI.one {k v : Bs} (hk : k.length ≤ 200) (hv : v.length ≤ 200) : PI (putS emptyW k v) 1 := PI.empty.put (by omega) (by omega)
theorem keysOf_len2 {c : Bs → Bs} {pre : Bs} {l : List Bs} {n : Nat} (h : KeysOf c pre l) (hk : KeysIn c n) : l.length ≤ n := by
  obtain ⟨l0, rfl, hn, hm⟩ := h
  obtain ⟨ks, h1, h2⟩ := hk.few
  rw [sortS_len]
  exact Nat.le_trans (List.Nodup.length_le_of_subset hn fun k hk => h2 k ((hm k).1 hk).1) h1
set_option maxRecDepth 100000 in
set_option maxHeartbeats 4000000 in
theorem ptell_law {w : World} {F : Th} (hS : Sat w [F]) (hG : Ent F WireG) {lv : Value} {l : List OpP} (hL : Ent F (RdL oC lv l)) (kk vv : Bs) :
    Calls Tryz.prog 3 #[lv, strV kk, strV vv] w (Ret fun v w' => v = .bool true ∧ Sat w' [F]) := by
  obtain ⟨ao, cap, rfl, hmax⟩ := (hL.sat hS 0 rfl).shape
  refine calls_enter Tryz.func3 rfl Tryz.ntmps3 rfl ?_
  refine wc_seq ?_
  refine wc_region ?_
  refine wl_assign rfl rfl ?_
  refine wl_nil ?_
  refine qs_seq ?_
  refine wc_seq ?_
  refine wc_region ?_
  have hC1 := hS.split [] [false] rfl; dsimp only [selF, pickA, nthA, List.cons_append, List.nil_append] at hC1
  refine wl_call cal_5 rfl (psmall_sp hC1 (hG.starL 0 rfl)) rfl ?_
  rintro e w1 ⟨_, rfl, rfl, hS1⟩; refine ⟨_, rfl, ?_⟩
  replace hS1 := hS1.join rfl; dsimp only [List.dropLast, List.cons_append, List.nil_append] at hS1; clear hC1
  refine wl_assign rfl rfl ?_
  refine wl_nil ?_
  refine qs_seq ?_
  refine wc_seq ?_
  refine wc_seq ?_
  refine wc_region ?_
  refine wl_move rfl rfl ?_
  have hC2 := hS1.split [] [false] rfl; dsimp only [selF, pickA, nthA, List.cons_append, List.nil_append] at hC2
  refine wl_call cal_6 rfl (pfew_sp hC2 (hL.starL 0 rfl) 100) rfl ?_
  rintro e w2 ⟨_, rfl, rfl, hS2⟩; refine ⟨_, rfl, ?_⟩
  replace hS2 := hS2.join rfl; dsimp only [List.dropLast, List.cons_append, List.nil_append] at hS2; clear hC2
  clear hS1
  refine wl_not rfl rfl ?_
  refine wl_move rfl rfl ?_
  refine wl_split 25 rfl (fun h3 => ?_) (fun h3 => ?_)
  · skip
    refine wl_unwanted rfl rfl h3 rfl ?_
    refine wl_unwanted rfl rfl h3 rfl ?_
    refine wl_unwanted rfl rfl h3 rfl ?_
    refine wl_pickT rfl h3 rfl rfl ?_
    refine wl_move rfl rfl ?_
    refine wl_unwanted rfl rfl rfl rfl ?_
    refine wl_unwanted rfl rfl rfl rfl ?_
    refine wl_unwanted rfl rfl rfl rfl ?_
    refine wl_pickT rfl rfl rfl rfl ?_
    refine wl_nil ?_
    refine qs_seq ?_
    refine wc_sub (L' := [(34, _), (7, _), (6, _), (0, _), (1, _), (2, _)]) (.cons rfl (.cons rfl (.cons rfl (.cons rfl (.cons rfl (.cons rfl .nil)))))) ?_
    refine wc_condT rfl ?_
    refine wc_seq ?_
    refine wc_region ?_
    refine wl_move rfl rfl ?_
    refine wl_assign rfl rfl ?_
    refine wl_nil ?_
    refine qs_seq ?_
    refine wc_ret ?_
    refine qs_then_ret ?_
    refine fin1 (.inr rfl) rfl rfl ?_
    exact ⟨_, rfl, by first | rfl | simp, hS2.pick [0] rfl⟩
  · skip
    have hfew : fewO 100 l = true := by simpa using h3
    have hll := fewO_len hfew
    refine wl_guard rfl rfl h3 ?_
    refine wl_move rfl rfl ?_
    refine wl_guard rfl rfl h3 ?_
    refine wl_lenS Tryz.underlying9 rfl rfl ?_
    refine wl_guard rfl rfl h3 ?_
    refine wl_gtr rfl rfl rfl ?_
    refine wl_pickF rfl h3 rfl rfl ?_
    refine wl_move rfl rfl ?_
    refine wl_splitD 30 rfl (fun h4 => ?_) (fun h4 => ?_)
    · skip
      refine wl_unwanted rfl rfl (decide_eq_true h4) rfl ?_
      refine wl_unwanted rfl rfl (decide_eq_true h4) rfl ?_
      refine wl_unwanted rfl rfl (decide_eq_true h4) rfl ?_
      refine wl_pickT rfl (decide_eq_true h4) rfl rfl ?_
      refine wl_nil ?_
      refine qs_seq ?_
      refine wc_sub (L' := [(34, _), (7, _), (6, _), (0, _), (1, _), (2, _)]) (.cons rfl (.cons rfl (.cons rfl (.cons rfl (.cons rfl (.cons rfl .nil)))))) ?_
      refine wc_condT rfl ?_
      refine wc_seq ?_
      refine wc_region ?_
      refine wl_move rfl rfl ?_
      refine wl_assign rfl rfl ?_
      refine wl_nil ?_
      refine qs_seq ?_
      refine wc_ret ?_
      refine qs_then_ret ?_
      refine fin1 (.inr rfl) rfl rfl ?_
      exact ⟨_, rfl, by first | rfl | simp, hS2.pick [0] rfl⟩
    · skip
      refine wl_guard rfl rfl (decide_eq_false h4) ?_
      refine wl_move rfl rfl ?_
      refine wl_guard rfl rfl (decide_eq_false h4) ?_
      refine wl_lenS Tryz.underlying9 rfl rfl ?_
      refine wl_guard rfl rfl (decide_eq_false h4) ?_
      refine wl_gtr rfl rfl rfl ?_
      refine wl_pickF rfl (decide_eq_false h4) rfl rfl ?_
      refine wl_nil ?_
      refine qs_seq ?_
      refine wc_sub (L' := [(34, _), (7, _), (6, _), (0, _), (1, _), (2, _)]) (.cons rfl (.cons rfl (.cons rfl (.cons rfl (.cons rfl (.cons rfl .nil)))))) ?_
      refine wc_condD rfl (fun h5 => ?_) (fun h5 => ?_)
      · skip
        refine wc_seq ?_
        refine wc_region ?_
        refine wl_move rfl rfl ?_
        refine wl_assign rfl rfl ?_
        refine wl_nil ?_
        refine qs_seq ?_
        refine wc_ret ?_
        refine qs_then_ret ?_
        refine fin1 (.inr rfl) rfl rfl ?_
        exact ⟨_, rfl, by first | rfl | simp, hS2.pick [0] rfl⟩
      · skip
        refine wc_skip ?_
        refine qs_seq ?_
        refine wc_seq ?_
        refine wc_region ?_
        have hC6 := hS2.split [] [false] rfl; dsimp only [selF, pickA, nthA, List.cons_append, List.nil_append] at hC6
        refine wl_call cal_7 rfl (new_sp hC6) rfl ?_
        rintro e w6 ⟨_, rfl, p, rfl, hS6⟩; refine ⟨_, rfl, ?_⟩
        replace hS6 := hS6.join rfl; dsimp only [List.dropLast, List.cons_append, List.nil_append] at hS6; clear hC6
        clear hS2
        refine wl_assign rfl rfl ?_
        refine wl_nil ?_
        refine qs_seq ?_
        refine wc_seq ?_
        refine wc_region ?_
        refine wl_buildS rfl pl_31_ asz_31 zr_31 rfl rfl ?_
        refine wl_box hS6 rfl rfl rfl ?_
        intro fb wf hSf
        have hSg : Sat wf [refP fb emptyW 0, worldT p emptyW, F] := refP_shut ⟨CellsR.empty, by simp⟩ (refT_shut (((hSf.row_nil stC).row_nil stC).reorder [2, 0, 1, 3, 4] rfl))
        clear hS6
        refine wl_assign rfl rfl ?_
        refine wl_nil ?_
        refine qs_seq ?_
        refine wc_sub (L' := [(9, _), (8, _), (7, _), (6, _), (0, _), (1, _), (2, _)]) (.cons rfl (.cons rfl (.cons rfl (.cons rfl (.cons rfl (.cons rfl (.cons rfl .nil))))))) ?_
        refine wc_seq ?_
        refine wc_seq ?_
        refine wc_region ?_
        refine wl_move rfl rfl ?_
        refine wl_eqlNil Tryz.underlying25 rfl rfl rfl ?_
        refine wl_nil ?_
        refine qs_seq ?_
        refine wc_condF rfl ?_
        refine wc_skip ?_
        refine qs_seq ?_
        refine wc_seq ?_
        refine wc_region ?_
        refine wl_move rfl rfl ?_
        refine wl_move rfl rfl ?_
        refine wl_move rfl rfl ?_
        have hC7 := hSg.split [1] [false, true, false] rfl; dsimp only [selF, pickA, nthA, List.cons_append, List.nil_append] at hC7
        refine wl_call cal_8 rfl (put_sp hC7 kk vv (by omega) (by omega)) rfl ?_
        rintro e w7 ⟨_, rfl, rfl, hS7⟩; refine ⟨_, rfl, ?_⟩
        replace hS7 := hS7.join rfl; dsimp only [List.dropLast, List.cons_append, List.nil_append] at hS7; clear hC7
        clear hSg
        refine wl_nil ?_
        refine qs_seq ?_
        refine wc_sub (L' := [(9, _), (8, _), (7, _), (6, _), (0, _), (1, _), (2, _)]) (.cons rfl (.cons rfl (.cons rfl (.cons rfl (.cons rfl (.cons rfl (.cons rfl .nil))))))) ?_
        refine wc_seq ?_
        refine wc_region ?_
        refine wl_move rfl rfl ?_
        refine wl_move rfl rfl ?_
        refine wl_move rfl rfl ?_
        have hC8 := hS7.split [1] [false, true, false] rfl; dsimp only [selF, pickA, nthA, List.cons_append, List.nil_append] at hC8
        refine wl_call cal_9 rfl (qPut hC8 (by omega) kk vv) rfl ?_
        rintro e w8 ⟨_, rfl, rfl, hS8⟩; refine ⟨_, rfl, ?_⟩
        replace hS8 := hS8.join rfl; dsimp only [List.dropLast, List.cons_append, List.nil_append] at hS8; clear hC8
        clear hS7
        refine wl_nil ?_
        refine qs_seq ?_
        refine wc_sub (L' := [(9, _), (8, _), (7, _), (6, _), (0, _)]) (.cons rfl (.cons rfl (.cons rfl (.cons rfl (.cons rfl .nil))))) ?_
        refine wc_seq ?_
        refine wc_seq ?_
        refine wc_region ?_
        refine wl_assign rfl rfl ?_
        refine wl_nil ?_
        refine qs_seq ?_
        refine wc_block ?_
        refine wc_loop (fun K0 E0 W0 => ∃ (i : Nat) (W : WS), K0 = l.length - i ∧ E0 = [(0, .slice ao l.length cap), (7, .bool true), (8, ptrV p 0), (9, ptrV fb 0), (10, intV (i : Int))] ∧ Sat W0 [worldT p W, refP fb W (i + 1), F] ∧ (i ≤ l.length) ∧ (PI W (i + 1))) (L0 := [(0, _), (7, _), (8, _), (9, _), (10, _)]) (l.length - 0) (.cons rfl (.cons rfl (.cons rfl (.cons rfl (.cons rfl .nil))))) ⟨0, _, rfl, rfl, hS8.pick [1, 0, 2] rfl, by omega, PI.one (by omega) (by omega)⟩ ?_
        rintro _ _ w9 ⟨i, W, rfl, rfl, hS9, hi, hP⟩
        refine wc_seq ?_
        refine wc_seq ?_
        refine wc_region ?_
        refine wl_move rfl rfl ?_
        refine wl_move rfl rfl ?_
        refine wl_lenL Tryz.underlying22 rfl rfl ?_
        refine wl_lss rfl rfl rfl ?_
        refine wl_nil ?_
        refine qs_seq ?_
        refine wc_condD rfl (fun h10 => ?_) (fun h10 => ?_)
        · skip
          obtain ⟨o, ho⟩ : ∃ o, l[i]? = some o := ⟨_, List.getElem?_eq_getElem (by omega)⟩
          obtain ⟨b, off, rfl, hc⟩ := (hL.sat hS9 2 rfl).get ho
          have hos := fewO_get hfew ho
          refine wc_skip ?_
          refine qs_seq ?_
          refine wc_seq ?_
          refine wc_block ?_
          refine wc_seq ?_
          refine wc_region ?_
          refine wl_move rfl rfl ?_
          refine wl_move rfl rfl ?_
          refine wl_move rfl rfl ?_
          refine wl_indexAddr i rfl rfl (by first | rfl | omega) (by omega) es_22 rfl ?_
          refine wl_loadAt rfl ag_36 sz_36 (vs := oV o) (fun j u hu => rdl_at (hL.sat hS9 2 rfl) ho hu) rfl ?_
          have hC11 := hS9.split [0] [true, false, false] rfl; dsimp only [selF, pickA, nthA, List.cons_append, List.nil_append] at hC11
          refine wl_call cal_10 rfl (pdo_sp hC11 (hG.starL 1 rfl) hP (by omega) o hos) rfl ?_
          rintro e w11 ⟨_, rfl, rfl, hS11⟩; refine ⟨_, rfl, ?_⟩
          replace hS11 := hS11.join rfl; dsimp only [List.dropLast, List.cons_append, List.nil_append] at hS11; clear hC11
          clear hS9
          refine wl_move rfl rfl ?_
          refine wl_extract rfl rfl rfl ?_
          refine wl_extract rfl rfl rfl ?_
          refine wl_extract rfl rfl rfl ?_
          refine wl_assign rfl rfl ?_
          refine wl_assign rfl rfl ?_
          refine wl_assign rfl rfl ?_
          refine wl_nil ?_
          refine qs_seq ?_
          refine wc_sub (L' := [(13, _), (12, _), (11, _), (0, _), (7, _), (8, _), (9, _), (10, _)]) (.cons rfl (.cons rfl (.cons rfl (.cons rfl (.cons rfl (.cons rfl (.cons rfl (.cons rfl .nil)))))))) ?_
          refine wc_seq ?_
          refine wc_region ?_
          refine wl_move rfl rfl ?_
          refine wl_move rfl rfl ?_
          refine wl_move rfl rfl ?_
          refine wl_indexAddr i rfl rfl (by first | rfl | omega) (by omega) es_22 rfl ?_
          refine wl_loadAt rfl ag_36 sz_36 (vs := oV o) (fun j u hu => rdl_at (hL.sat hS11 2 rfl) ho hu) rfl ?_
          have hC12 := hS11.split [1] [false, true, false] rfl; dsimp only [selF, pickA, nthA, List.cons_append, List.nil_append] at hC12
          refine wl_call cal_11 rfl (qdo_sp hC12 hP (by omega) o hos) rfl ?_
          rintro e w12 ⟨_, rfl, rfl, hS12⟩; refine ⟨_, rfl, ?_⟩
          replace hS12 := hS12.join rfl; dsimp only [List.dropLast, List.cons_append, List.nil_append] at hS12; clear hC12
          clear hS11
          refine wl_move rfl rfl ?_
          refine wl_extract rfl rfl rfl ?_
          refine wl_extract rfl rfl rfl ?_
          refine wl_extract rfl rfl rfl ?_
          refine wl_assign rfl rfl ?_
          refine wl_assign rfl rfl ?_
          refine wl_assign rfl rfl ?_
          refine wl_nil ?_
          refine qs_seq ?_
          refine wc_sub (L' := [(16, _), (15, _), (14, _), (13, _), (12, _), (11, _), (0, _), (7, _), (8, _), (9, _), (10, _)]) (.cons rfl (.cons rfl (.cons rfl (.cons rfl (.cons rfl (.cons rfl (.cons rfl (.cons rfl (.cons rfl (.cons rfl (.cons rfl .nil))))))))))) ?_
          refine wc_seq ?_
          refine wc_region ?_
          refine wl_move rfl rfl ?_
          refine wl_makeIface nif_25 rfl rfl ?_
          refine wl_move rfl rfl ?_
          refine wl_move rfl rfl ?_
          refine wl_indexAddr i rfl rfl (by first | rfl | omega) (by omega) es_22 rfl ?_
          refine wl_fieldAddr rfl fo_36_1 rfl ?_
          refine wl_load rfl ag_9 (rdl_at (C := oC) (j := 1) (hL.sat hS12 2 rfl) ho rfl) rfl ?_
          have hC13 := hS12.split [1] [false, true, false] rfl; dsimp only [selF, pickA, nthA, List.cons_append, List.nil_append] at hC13
          refine wl_call cal_12 rfl (pGet_sp hC13 (hG.starL 1 rfl) o.id (by omega) ((hP.doP hos.1).len _)) rfl ?_
          rintro e w13 ⟨_, rfl, rfl, hS13⟩; refine ⟨_, rfl, ?_⟩
          replace hS13 := hS13.join rfl; dsimp only [List.dropLast, List.cons_append, List.nil_append] at hS13; clear hC13
          clear hS12
          refine wl_move rfl rfl ?_
          refine wl_extract rfl rfl rfl ?_
          refine wl_extract rfl rfl rfl ?_
          refine wl_alloc hS13 zr_39 rfl rfl ?_
          intro b14 w14 hS14
          clear hS13
          first | (refine wl_storeA hS14 rfl rfl sz_39 rfl (by first | rfl | (simp [allOne, Value.oneCell']; done) | assumption | exact hone) (i := 0) rfl (by first | decide | exact Nat.le_of_ble_eq_true rfl | (simp; done) | omega) ?_)
          intro w15 hS16; dsimp only [List.set] at hS16
          clear hS14
          refine wl_assign rfl rfl ?_
          refine wl_nil ?_
          refine qs_seq ?_
          refine wc_sub (L' := [(18, _), (17, _), (16, _), (15, _), (14, _), (13, _), (12, _), (11, _), (0, _), (7, _), (8, _), (9, _), (10, _)]) (.cons rfl (.cons rfl (.cons rfl (.cons rfl (.cons rfl (.cons rfl (.cons rfl (.cons rfl (.cons rfl (.cons rfl (.cons rfl (.cons rfl (.cons rfl .nil))))))))))))) ?_
          refine wc_seq ?_
          refine wc_region ?_
          refine wl_move rfl rfl ?_
          refine wl_move rfl rfl ?_
          refine wl_move rfl rfl ?_
          refine wl_indexAddr i rfl rfl (by first | rfl | omega) (by omega) es_22 rfl ?_
          refine wl_fieldAddr rfl fo_36_1 rfl ?_
          refine wl_load rfl ag_9 (rdl_at (C := oC) (j := 1) (hL.sat hS16 3 rfl) ho rfl) rfl ?_
          have hC17 := hS16.split [2] [false, false, true, false] rfl; dsimp only [selF, pickA, nthA, List.cons_append, List.nil_append] at hC17
          refine wl_call cal_13 rfl (qGetP_sp hC17 (by omega) o.id (by omega) ((hP.doP hos.1).len _)) rfl ?_
          rintro e w17 ⟨_, rfl, rfl, hS17⟩; refine ⟨_, rfl, ?_⟩
          replace hS17 := hS17.join rfl; dsimp only [List.dropLast, List.cons_append, List.nil_append] at hS17; clear hC17
          clear hS16
          refine wl_move rfl rfl ?_
          refine wl_extract rfl rfl rfl ?_
          refine wl_extract rfl rfl rfl ?_
          refine wl_alloc hS17 zr_39 rfl rfl ?_
          intro b18 w18 hS18
          clear hS17
          first | (refine wl_storeA hS18 rfl rfl sz_39 rfl (by first | rfl | (simp [allOne, Value.oneCell']; done) | assumption | exact hone) (i := 0) rfl (by first | decide | exact Nat.le_of_ble_eq_true rfl | (simp; done) | omega) ?_) | (refine wl_storeA hS18 rfl rfl sz_39 rfl (by first | rfl | (simp [allOne, Value.oneCell']; done) | assumption | exact hone) (i := 2) rfl (by first | decide | exact Nat.le_of_ble_eq_true rfl | (simp; done) | omega) ?_)
          intro w19 hS20; dsimp only [List.set] at hS20
          clear hS18
          refine wl_assign rfl rfl ?_
          refine wl_nil ?_
          refine qs_seq ?_
          refine wc_sub (L' := [(20, _), (19, _), (18, _), (17, _), (16, _), (15, _), (14, _), (13, _), (12, _), (11, _), (0, _), (7, _), (8, _), (9, _), (10, _)]) (.cons rfl (.cons rfl (.cons rfl (.cons rfl (.cons rfl (.cons rfl (.cons rfl (.cons rfl (.cons rfl (.cons rfl (.cons rfl (.cons rfl (.cons rfl (.cons rfl (.cons rfl .nil))))))))))))))) ?_
          refine wc_seq ?_
          have hS21 := hS20.drew
          refine wc_draw [0, 1, 2, 3, 4, 5, 6, 7, 8, 9, 10, 11, 12, 13, 14, 15, 16, 17, 18, 19, 20, 21, 22, 23, 24, 25, 26, 27, 28, 29, 30, 32, 33, 34, 35, 36, 37, 38, 31, 39, 40, 41] [31, 39] mix (by kernel_rfl) ?_
          refine vc_p rfl rfl rfl (fun _ => (ev_move rfl)) ?_
          refine vc_p rfl rfl rfl (fun _ => (ev_move rfl)) ?_
          refine vc_p rfl rfl rfl (fun _ => (ev_neqS rfl rfl)) ?_
          refine vc_p rfl rfl rfl (fun _ => (ev_move rfl)) ?_
          refine vc_splitD 99 rfl (fun h22 => ?_) (fun h22 => ?_)
          · skip
            exact absurd rfl h22
          · skip
            refine vc_p rfl rfl (guard_yes rfl rfl (decide_eq_false h22)) (fun _ => (Ev.gd (ev_move rfl))) ?_
            refine vc_p rfl rfl (guard_yes rfl rfl (decide_eq_false h22)) (fun _ => (Ev.gd (ev_move rfl))) ?_
            refine vc_p rfl rfl (guard_yes rfl rfl (decide_eq_false h22)) (fun _ => (Ev.gd (ev_neq rfl rfl))) ?_
            refine vc_p rfl rfl rfl (fun _ => (ev_pickF rfl (decide_eq_false h22) rfl)) ?_
            refine vc_p rfl rfl rfl (fun _ => (ev_move rfl)) ?_
            refine vc_splitD 104 rfl (fun h23 => ?_) (fun h23 => ?_)
            · skip
              exact absurd rfl h23
            · skip
              refine vc_p rfl rfl (guard_yes rfl rfl (decide_eq_false h23)) (fun _ => (Ev.gd (ev_move rfl))) ?_
              refine vc_p rfl rfl (guard_yes rfl rfl (decide_eq_false h23)) (fun _ => (Ev.gd (ev_move rfl))) ?_
              refine vc_p rfl rfl (guard_yes rfl rfl (decide_eq_false h23)) (fun _ => (Ev.gd (ev_neq rfl rfl))) ?_
              refine vc_p rfl rfl rfl (fun _ => (ev_pickF rfl (decide_eq_false h23) rfl)) ?_
              refine vc_p rfl rfl rfl (fun _ => (ev_move rfl)) ?_
              refine vc_splitD 109 rfl (fun h24 => ?_) (fun h24 => ?_)
              · skip
                exact absurd rfl h24
              · skip
                refine vc_q rfl rfl (guard_yes rfl rfl (decide_eq_false h24)) (Ev.gd (ev_loadA rfl ag_39 sz_39 (by first | exact hS21.blk 0 rfl | exact hS21.blk 2 rfl) (by first | decide | exact Nat.le_of_ble_eq_true rfl | (simp; done) | omega) rfl)) ?_
                refine vc_q rfl rfl (guard_yes rfl rfl (decide_eq_false h24)) (Ev.gd (ev_loadA rfl ag_39 sz_39 (by first | exact hS21.blk 0 rfl | exact hS21.blk 2 rfl) (by first | decide | exact Nat.le_of_ble_eq_true rfl | (simp; done) | omega) rfl)) ?_
                refine vc_p rfl rfl (guard_yes rfl rfl (decide_eq_false h24)) (fun _ => (Ev.gd (ev_neqAgg (eqPipe_self _) (by kernel_rfl) rfl rfl))) ?_
                refine vc_p rfl rfl rfl (fun _ => (ev_pickF rfl (decide_eq_false h24) rfl)) ?_
                refine vc_p rfl rfl rfl (fun _ => (ev_move rfl)) ?_
                refine vc_p rfl rfl (guard_yes rfl rfl rfl) (fun _ => (Ev.gd (ev_move rfl))) ?_
                refine vc_p rfl rfl (guard_yes rfl rfl rfl) (fun _ => (Ev.gd (ev_move rfl))) ?_
                refine vc_p rfl rfl (guard_yes rfl rfl rfl) (fun _ => (Ev.gd (ev_neqB Tryz.underlying4 rfl rfl))) ?_
                refine vc_p rfl rfl rfl (fun _ => (ev_pickF rfl rfl rfl)) ?_
                refine vc_p rfl rfl rfl (fun _ => (ev_move rfl)) ?_
                refine vc_split 119 rfl (fun h25 => ?_) (fun h25 => ?_)
                · skip
                  simp at h25
                · skip
                  refine vc_p rfl rfl (guard_yes rfl rfl h25) (fun _ => (Ev.gd (ev_move rfl))) ?_
                  refine vc_p rfl rfl (guard_yes rfl rfl h25) (fun _ => (Ev.gd (ev_move rfl))) ?_
                  refine vc_p rfl rfl (guard_yes rfl rfl h25) (fun _ => (Ev.gd (ev_move rfl))) ?_
                  refine vc_p rfl rfl (guard_yes rfl rfl h25) (fun _ => (Ev.gd (ev_indexAddr i rfl rfl (by first | rfl | omega) (by omega) es_22))) ?_
                  refine vc_p rfl rfl (guard_yes rfl rfl h25) (fun _ => (Ev.gd (ev_fieldAddr rfl fo_36_1))) ?_
                  refine vc_q rfl rfl (guard_yes rfl rfl h25) (Ev.gd (ev_load rfl ag_9 (rdl_at (C := oC) (j := 1) (hL.sat hS21 4 rfl) ho rfl))) ?_
                  refine vc_p rfl rfl (guard_yes rfl rfl h25) (fun _ => (Ev.gd (ev_concat rfl rfl (by first | omega | (simp; omega))))) ?_
                  refine vc_p rfl rfl (guard_yes rfl rfl h25) (fun _ => (Ev.gd (ev_move rfl))) ?_
                  refine vc_p rfl rfl (guard_yes rfl rfl h25) (fun _ => (Ev.gd (ev_move rfl))) ?_
                  refine vc_p rfl rfl (guard_yes rfl rfl h25) (fun _ => (Ev.gd (ev_move rfl))) ?_
                  refine vc_p rfl rfl (guard_yes rfl rfl h25) (fun _ => (Ev.gd (ev_indexAddr i rfl rfl (by first | rfl | omega) (by omega) es_22))) ?_
                  refine vc_p rfl rfl (guard_yes rfl rfl h25) (fun _ => (Ev.gd (ev_fieldAddr rfl fo_36_1))) ?_
                  refine vc_q rfl rfl (guard_yes rfl rfl h25) (Ev.gd (ev_load rfl ag_9 (rdl_at (C := oC) (j := 1) (hL.sat hS21 4 rfl) ho rfl))) ?_
                  refine vc_p rfl rfl (guard_yes rfl rfl h25) (fun _ => (Ev.gd (ev_concat rfl rfl (by first | omega | (simp; omega))))) ?_
                  refine vc_s rfl rfl (guard_yes rfl rfl h25) rfl rfl rfl ?_
                  have hC26 := hS21.split [3] [false, false, false, true, false] rfl; dsimp only [selF, pickA, nthA, List.cons_append, List.nil_append] at hC26
                  refine wl_call cal_14 rfl (get_sp hC26 (kP o.id)) rfl ?_
                  rintro e w26 ⟨_, rfl, rfl, hS26⟩; refine ⟨_, rfl, ?_⟩
                  replace hS26 := hS26.join rfl; dsimp only [List.dropLast, List.cons_append, List.nil_append] at hS26; clear hC26
                  clear hS21
                  refine vc_e (.cons (.inl ⟨(guard_yes rfl rfl h25), (Ev.gd (ev_load rfl ag_9 (rdl_at (C := oC) (j := 1) (hL.sat hS26 4 rfl) ho rfl)))⟩) (.skip (by kernel_rfl) (.skip (by kernel_rfl) (.skip (by kernel_rfl) .nil)))) ?_
                  refine vc_s rfl rfl (guard_yes rfl rfl h25) rfl rfl rfl ?_
                  have hC27 := hS26.split [2] [false, false, true, false, false] rfl; dsimp only [selF, pickA, nthA, List.cons_append, List.nil_append] at hC27
                  refine wl_call cal_15 rfl (qGet hC27 (by omega) (kP o.id)) rfl ?_
                  rintro e w27 ⟨_, rfl, rfl, hS27⟩; refine ⟨_, rfl, ?_⟩
                  replace hS27 := hS27.join rfl; dsimp only [List.dropLast, List.cons_append, List.nil_append] at hS27; clear hC27
                  clear hS26
                  refine vc_e (.skip (by kernel_rfl) (.skip (by kernel_rfl) (.skip (by kernel_rfl) (.skip (by kernel_rfl) .nil)))) ?_
                  refine vc_p rfl rfl (guard_yes rfl rfl h25) (fun _ => (Ev.gd (ev_neqS rfl rfl))) ?_
                  refine vc_p rfl rfl rfl (fun _ => (ev_pickF rfl h25 rfl)) ?_
                  refine VC.nil ?_
                  refine qs_seq ?_
                  refine wc_sub (L' := [(137, _), (0, _), (7, _), (8, _), (9, _), (10, _)]) (.cons rfl (.cons rfl (.cons rfl (.cons rfl (.cons rfl (.cons rfl .nil)))))) ?_
                  refine wc_condD rfl (fun h28 => ?_) (fun h28 => ?_)
                  · skip
                    exact absurd rfl h28
                  · skip
                    refine wc_skip ?_
                    refine qs_block_normal ?_
                    refine qs_seq ?_
                    refine wc_region ?_
                    refine wl_move rfl rfl ?_
                    refine wl_add rfl rfl (by first | omega | (simp; omega)) (by first | omega | (simp; omega)) rfl ?_
                    refine wl_assign rfl rfl ?_
                    refine wl_nil ?_
                    exact qs_round (L1 := [(0, _), (7, _), (8, _), (9, _), (10, intV ((i + 1 : Nat) : Int))]) (.cons rfl (.cons rfl (.cons rfl (.cons rfl (.cons rfl .nil))))) (k1 := l.length - (i + 1)) (by omega) ⟨i + 1, _, rfl, rfl, hS27.pick [1, 0, 4] rfl, by omega, hP.doP hos.1⟩
        · skip
          refine wc_exit ?_
          refine qs_then_exit ?_
          refine qs_then_exit ?_
          refine qs_block_exit ?_
          refine qs_seq ?_
          refine wc_seq ?_
          refine wc_region ?_
          refine wl_move rfl rfl ?_
          refine wl_move rfl rfl ?_
          refine wl_guard rfl rfl rfl ?_
          refine wl_move rfl rfl ?_
          refine wl_guard rfl rfl rfl ?_
          have hC29 := hS9.split [0] [true, false, false] rfl; dsimp only [selF, pickA, nthA, List.cons_append, List.nil_append] at hC29
          refine wl_call cal_17 rfl (keys_sp hC29 [] (hP.kin (by omega))) rfl ?_
          rintro e w29 ⟨_, rfl, lk, hlk, hS29⟩; refine ⟨_, rfl, ?_⟩
          replace hS29 := hS29.join rfl; dsimp only [List.dropLast, List.cons_append, List.nil_append] at hS29; clear hC29
          clear hS9
          have hlkl := keysOf_len2 hlk (hP.kin (by omega))
          refine wl_guard rfl rfl rfl ?_
          refine wl_move rfl rfl ?_
          refine wl_guard rfl rfl rfl ?_
          have hC30 := hS29.split [2] [false, false, true, false] rfl; dsimp only [selF, pickA, nthA, List.cons_append, List.nil_append] at hC30
          refine wl_call cal_18 rfl (qWith hC30 (by omega) []) rfl ?_
          rintro e w30 ⟨_, rfl, lw, hlc, hlu, hll, hS30⟩; refine ⟨_, rfl, ?_⟩
          replace hS30 := hS30.join rfl; dsimp only [List.dropLast, List.cons_append, List.nil_append] at hS30; clear hC30
          clear hS29
          obtain rfl := hlu _ hlk
          refine wl_guard rfl rfl rfl ?_
          have hC31 := hS30.split [] [false, false, false, false, false] rfl; dsimp only [selF, pickA, nthA, List.cons_append, List.nil_append] at hC31
          refine wl_call cal_16 rfl (same_sp hC31 (Ent.starL (ent_row (C := stC) (by omega)) 2 rfl) (Ent.starL (ent_row (C := stC) (by omega)) 0 rfl)) rfl ?_
          rintro e w31 ⟨_, rfl, rfl, hS31⟩; refine ⟨_, rfl, ?_⟩
          replace hS31 := hS31.join rfl; dsimp only [List.dropLast, List.cons_append, List.nil_append] at hS31; clear hC31
          clear hS30
          refine wl_pickT rfl rfl rfl rfl ?_
          refine wl_assign rfl rfl ?_
          refine wl_nil ?_
          refine qs_seq ?_
          refine wc_sub (L' := [(6, _)]) (.cons rfl .nil) ?_
          refine wc_ret ?_
          refine fin1 (.inr rfl) rfl rfl ?_
          exact ⟨_, rfl, by first | rfl | simp, hS31.pick [4] rfl⟩

end Go.Proofs.YtgnhfhhmipcgcaaGreatDoor
