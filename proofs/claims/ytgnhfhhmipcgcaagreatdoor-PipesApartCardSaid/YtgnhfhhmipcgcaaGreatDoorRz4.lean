/- laws of pipes: PipesApart -/
import Derived.Test.YtgnhfhhmipcgcaaGreatDoorRz3
import Derived.Test.YtgnhfhhmipcgcaaGreatDoorWo
import Derived.Laws.StructEq
namespace Go.Proofs.YtgnhfhhmipcgcaaGreatDoor
open Go.RowKit M
set_option linter.unusedVariables false
theorem gP_doP {W : WS} {o : OpP} {x : Bs} (h : x ≠ o.id) : gP (doP W o) x = gP W x := by
  have k := fun n => gP_other (W := W) h o.wr o.n o.s n
  unfold doP
  split
  · exact (k (keyN W)).2.2.2.2
  split
  · exact (k 0).1
  split
  · exact (k 0).2.1
  split
  · exact (k 0).2.2.1
  split
  · exact (k 0).2.2.2.1
  · rfl
theorem cell_doP {W : WS} {o : OpP} {x : Bs} (h : ∀ t, x ≠ kP t) : (doP W o).cells x = W.cells x := by
  have k := fun n => cell_other (W := W) (id := o.id) h o.wr o.n o.s n
  unfold doP
  split
  · exact (k (keyN W)).2.2.2.2
  split
  · exact (k 0).1
  split
  · exact (k 0).2.1
  split
  · exact (k 0).2.2.1
  split
  · exact (k 0).2.2.2.1
  · rfl
def RestE (W : WS) : Prop := (∀ n q, W.objs n q = none) ∧ W.time = 0
theorem RestE.opn {W : WS} (h : RestE W) (id : Bs) (b : Bool) : RestE (openP W id b) := by unfold openP; split <;> exact h
theorem RestE.cls {W : WS} (h : RestE W) (id : Bs) (b : Bool) : RestE (closeP W id b) := by
  unfold closeP; split
  · exact h
  · split
    · exact h
    · split <;> exact h
theorem RestE.read {W : WS} (h : RestE W) (id : Bs) (n : Int) : RestE (readP W id n) := by
  unfold readP; split
  · exact h
  · split <;> exact h
theorem RestE.write {W : WS} (h : RestE W) (id s : Bs) : RestE (writeP W id s) := by
  unfold writeP; split
  · exact h
  · split <;> exact h
theorem RestE.make {W : WS} (h : RestE W) (id : Bs) (n : Nat) : RestE (mkP W id n) := by unfold mkP; split <;> exact h
theorem RestE.doP {W : WS} (h : RestE W) (o : OpP) : RestE (doP W o) := by
  unfold Go.Proofs.YtgnhfhhmipcgcaaGreatDoor.doP
  split
  · exact h.make _ _
  split
  · exact h.opn _ _
  split
  · exact h.cls _ _
  split
  · exact h.read _ _
  split
  · exact h.write _ _
  · exact h
theorem RestE.objsIn {W : WS} (h : RestE W) : ObjsIn W.objs 1000000 := ⟨[], by simp, fun k ⟨q, hq⟩ => absurd (h.1 k q) hq⟩
theorem RestE.names {W : WS} (h : RestE W) {l : List Bs} (hl : NamesOf W.objs l) : l = [] := by
  obtain ⟨l0, rfl, _, hm⟩ := hl
  have : l0 = [] := List.eq_nil_iff_forall_not_mem.2 fun k hk => by
    obtain ⟨q, hq⟩ := (hm k).1 hk
    exact hq (h.1 k q)
  subst this; simp [sortS]
theorem kP_not {kk : Bs} (h : kk.length < 2 ∨ kk.take 2 ≠ [112, 47]) : ∀ t, kk ≠ kP t := by
  rintro t rfl
  rcases h with h | h
  · simp [kP] at h; omega
  · exact h rfl
theorem pre_kP {k : Bs} (h : Lib.hasPrefix k [112, 47] = true) : ∃ t, k = kP t := by
  unfold Lib.hasPrefix at h
  obtain ⟨t, rfl⟩ := List.isPrefixOf_iff_prefix.1 h
  exact ⟨t, rfl⟩
theorem keyN_key {kk v : Bs} (h : ∀ t, kk ≠ kP t) : keyN (putS emptyW kk v) = 0 := by
  refine keyN_eq ⟨[], rfl, List.nodup_nil, fun k => ⟨fun q => by simp at q, fun q => ?_⟩⟩
  obtain ⟨t, rfl⟩ := pre_kP q.2
  have q1 := q.1
  simp only [putS, updC] at q1
  rw [if_neg (fun e => h t e.symm)] at q1
  exact absurd rfl q1
theorem gP_key {kk v id : Bs} (h : ∀ t, kk ≠ kP t) : gP (putS emptyW kk v) id = none := by
  unfold gP; split
  · rfl
  · simp only [putS, updC]; rw [if_neg (fun e => h id e.symm)]; exact getP_nil
theorem cell_open {W : WS} {id k : Bs} {b : Bool} (h : ∀ t, k ≠ kP t) : (openP W id b).cells k = W.cells k := (cell_other h b 0 [] 0).1
theorem cell_write {W : WS} {id k s : Bs} (h : ∀ t, k ≠ kP t) : (writeP W id s).cells k = W.cells k := (cell_other h false 0 s 0).2.2.2.1
theorem cell_make {W : WS} {id k : Bs} {n : Nat} (h : ∀ t, k ≠ kP t) : (mkP W id n).cells k = W.cells k := (cell_other h false 0 [] n).2.2.2.2
structure ApI (W : WS) (ot kk : Bs) (x : PipeD) (n : Nat) : Prop where
  pi : PI W n
  pipe : gP W ot = some x
  val : W.cells kk = [118, 97, 108, 117, 101]
  rest : RestE W
set_option maxRecDepth 100000 in
set_option maxHeartbeats 4000000 in
theorem papart_law {w : World} {F : Th} (hS : Sat w [F]) (hG : Ent F WireG) {lv : Value} {l : List OpP} (hL : Ent F (RdL oC lv l)) (ot kk : Bs) :
    Calls Tryz.prog 4 #[lv, strV ot, strV kk] w (Ret fun v w' => v = .bool true ∧ Sat w' [F]) := by
  obtain ⟨ao, cap, rfl, hmax⟩ := (hL.sat hS 0 rfl).shape
  refine calls_enter Tryz.func4 rfl Tryz.ntmps4 rfl ?_
  refine wc_seq ?_
  refine wc_region ?_
  refine wl_assign rfl rfl ?_
  refine wl_nil ?_
  refine qs_seq ?_
  refine wc_seq ?_
  refine wc_region ?_
  have hC1 := hS.split [] [false] rfl; dsimp only [selF, pickA, nthA, List.cons_append, List.nil_append] at hC1
  refine wl_call cal_5 rfl (psmall_sp hC1 (hG.starL 0 rfl)) rfl ?_
  rintro e w1 ⟨_, rfl, rfl, hS1⟩; refine ⟨_, rfl, ?_⟩
  replace hS1 := hS1.join rfl; dsimp only [List.dropLast, List.cons_append, List.nil_append] at hS1; clear hC1
  refine wl_assign rfl rfl ?_
  refine wl_nil ?_
  refine qs_seq ?_
  refine wc_seq ?_
  refine wc_seq ?_
  refine wc_region ?_
  refine wl_move rfl rfl ?_
  have hC2 := hS1.split [] [false] rfl; dsimp only [selF, pickA, nthA, List.cons_append, List.nil_append] at hC2
  refine wl_call cal_6 rfl (pfew_sp hC2 (hL.starL 0 rfl) 60) rfl ?_
  rintro e w2 ⟨_, rfl, rfl, hS2⟩; refine ⟨_, rfl, ?_⟩
  replace hS2 := hS2.join rfl; dsimp only [List.dropLast, List.cons_append, List.nil_append] at hS2; clear hC2
  clear hS1
  refine wl_not rfl rfl ?_
  refine wl_move rfl rfl ?_
  refine wl_split 16 rfl (fun h3 => ?_) (fun h3 => ?_)
  · skip
    refine wl_unwanted rfl rfl h3 rfl ?_
    refine wl_unwanted rfl rfl h3 rfl ?_
    refine wl_unwanted rfl rfl h3 rfl ?_
    refine wl_pickT rfl h3 rfl rfl ?_
    refine wl_move rfl rfl ?_
    refine wl_unwanted rfl rfl rfl rfl ?_
    refine wl_unwanted rfl rfl rfl rfl ?_
    refine wl_unwanted rfl rfl rfl rfl ?_
    refine wl_pickT rfl rfl rfl rfl ?_
    refine wl_move rfl rfl ?_
    refine wl_unwanted rfl rfl rfl rfl ?_
    refine wl_unwanted rfl rfl rfl rfl ?_
    refine wl_pickT rfl rfl rfl rfl ?_
    refine wl_nil ?_
    refine qs_seq ?_
    refine wc_sub (L' := [(29, _), (7, _), (6, _), (0, _), (1, _), (2, _)]) (.cons rfl (.cons rfl (.cons rfl (.cons rfl (.cons rfl (.cons rfl .nil)))))) ?_
    refine wc_condT rfl ?_
    refine wc_seq ?_
    refine wc_region ?_
    refine wl_move rfl rfl ?_
    refine wl_assign rfl rfl ?_
    refine wl_nil ?_
    refine qs_seq ?_
    refine wc_ret ?_
    refine qs_then_ret ?_
    refine fin1 (.inr rfl) rfl rfl ?_
    exact ⟨_, rfl, by first | rfl | simp, hS2.pick [0] rfl⟩
  · skip
    have hfew : fewO 60 l = true := by simpa using h3
    have hll := fewO_len hfew
    refine wl_guard rfl rfl h3 ?_
    refine wl_move rfl rfl ?_
    refine wl_guard rfl rfl h3 ?_
    refine wl_lenS Tryz.underlying9 rfl rfl ?_
    refine wl_guard rfl rfl h3 ?_
    refine wl_gtr rfl rfl rfl ?_
    refine wl_pickF rfl h3 rfl rfl ?_
    refine wl_move rfl rfl ?_
    refine wl_splitD 21 rfl (fun h4 => ?_) (fun h4 => ?_)
    · skip
      refine wl_unwanted rfl rfl (decide_eq_true h4) rfl ?_
      refine wl_unwanted rfl rfl (decide_eq_true h4) rfl ?_
      refine wl_unwanted rfl rfl (decide_eq_true h4) rfl ?_
      refine wl_pickT rfl (decide_eq_true h4) rfl rfl ?_
      refine wl_move rfl rfl ?_
      refine wl_unwanted rfl rfl rfl rfl ?_
      refine wl_unwanted rfl rfl rfl rfl ?_
      refine wl_pickT rfl rfl rfl rfl ?_
      refine wl_nil ?_
      refine qs_seq ?_
      refine wc_sub (L' := [(29, _), (7, _), (6, _), (0, _), (1, _), (2, _)]) (.cons rfl (.cons rfl (.cons rfl (.cons rfl (.cons rfl (.cons rfl .nil)))))) ?_
      refine wc_condT rfl ?_
      refine wc_seq ?_
      refine wc_region ?_
      refine wl_move rfl rfl ?_
      refine wl_assign rfl rfl ?_
      refine wl_nil ?_
      refine qs_seq ?_
      refine wc_ret ?_
      refine qs_then_ret ?_
      refine fin1 (.inr rfl) rfl rfl ?_
      exact ⟨_, rfl, by first | rfl | simp, hS2.pick [0] rfl⟩
    · skip
      refine wl_guard rfl rfl (decide_eq_false h4) ?_
      refine wl_move rfl rfl ?_
      refine wl_guard rfl rfl (decide_eq_false h4) ?_
      refine wl_lenS Tryz.underlying9 rfl rfl ?_
      refine wl_guard rfl rfl (decide_eq_false h4) ?_
      refine wl_gtr rfl rfl rfl ?_
      refine wl_pickF rfl (decide_eq_false h4) rfl rfl ?_
      refine wl_move rfl rfl ?_
      refine wl_splitD 26 rfl (fun h5 => ?_) (fun h5 => ?_)
      · skip
        refine wl_unwanted rfl rfl (decide_eq_true h5) rfl ?_
        refine wl_unwanted rfl rfl (decide_eq_true h5) rfl ?_
        refine wl_pickT rfl (decide_eq_true h5) rfl rfl ?_
        refine wl_nil ?_
        refine qs_seq ?_
        refine wc_sub (L' := [(29, _), (7, _), (6, _), (0, _), (1, _), (2, _)]) (.cons rfl (.cons rfl (.cons rfl (.cons rfl (.cons rfl (.cons rfl .nil)))))) ?_
        refine wc_condT rfl ?_
        refine wc_seq ?_
        refine wc_region ?_
        refine wl_move rfl rfl ?_
        refine wl_assign rfl rfl ?_
        refine wl_nil ?_
        refine qs_seq ?_
        refine wc_ret ?_
        refine qs_then_ret ?_
        refine fin1 (.inr rfl) rfl rfl ?_
        exact ⟨_, rfl, by first | rfl | simp, hS2.pick [0] rfl⟩
      · skip
        refine wl_guard rfl rfl (decide_eq_false h5) ?_
        refine wl_move rfl rfl ?_
        refine wl_guard rfl rfl (decide_eq_false h5) ?_
        refine wl_eqlS rfl rfl rfl ?_
        refine wl_pickF rfl (decide_eq_false h5) rfl rfl ?_
        refine wl_nil ?_
        refine qs_seq ?_
        refine wc_sub (L' := [(29, _), (7, _), (6, _), (0, _), (1, _), (2, _)]) (.cons rfl (.cons rfl (.cons rfl (.cons rfl (.cons rfl (.cons rfl .nil)))))) ?_
        refine wc_condD rfl (fun h6 => ?_) (fun h6 => ?_)
        · skip
          refine wc_seq ?_
          refine wc_region ?_
          refine wl_move rfl rfl ?_
          refine wl_assign rfl rfl ?_
          refine wl_nil ?_
          refine qs_seq ?_
          refine wc_ret ?_
          refine qs_then_ret ?_
          refine fin1 (.inr rfl) rfl rfl ?_
          exact ⟨_, rfl, by first | rfl | simp, hS2.pick [0] rfl⟩
        · skip
          have hot : ot ≠ [] := by assumption
          refine wc_skip ?_
          refine qs_seq ?_
          refine wc_seq ?_
          refine wc_seq ?_
          refine wc_region ?_
          refine wl_move rfl rfl ?_
          refine wl_lenS Tryz.underlying9 rfl rfl ?_
          refine wl_geq rfl rfl rfl ?_
          refine wl_move rfl rfl ?_
          refine wl_splitD 34 rfl (fun h7 => ?_) (fun h7 => ?_)
          · skip
            refine wl_guard rfl rfl (decide_eq_true h7) ?_
            refine wl_move rfl rfl ?_
            refine wl_guard rfl rfl (decide_eq_true h7) ?_
            refine wl_sliceS 0 2 Tryz.underlying9 rfl (bndN _) (bndS 2 _ rfl rfl) (by first | omega | (simp; omega)) (by first | omega | (simp; omega)) rfl ?_
            refine wl_guard rfl rfl (decide_eq_true h7) ?_
            rw [List.drop_zero]
            refine wl_eqlS rfl rfl rfl ?_
            refine wl_pickT rfl (decide_eq_true h7) rfl rfl ?_
            refine wl_nil ?_
            refine qs_seq ?_
            refine wc_sub (L' := [(38, _), (7, _), (6, _), (0, _), (1, _), (2, _)]) (.cons rfl (.cons rfl (.cons rfl (.cons rfl (.cons rfl (.cons rfl .nil)))))) ?_
            refine wc_condD rfl (fun h8 => ?_) (fun h8 => ?_)
            · skip
              refine wc_seq ?_
              refine wc_region ?_
              refine wl_move rfl rfl ?_
              refine wl_assign rfl rfl ?_
              refine wl_nil ?_
              refine qs_seq ?_
              refine wc_ret ?_
              refine qs_then_ret ?_
              refine fin1 (.inr rfl) rfl rfl ?_
              exact ⟨_, rfl, by first | rfl | simp, hS2.pick [0] rfl⟩
            · skip
              have hkk : ∀ t, kk ≠ kP t := kP_not (.inr h8)
              refine wc_skip ?_
              refine qs_seq ?_
              refine wc_seq ?_
              refine wc_region ?_
              have hC9 := hS2.split [] [false] rfl; dsimp only [selF, pickA, nthA, List.cons_append, List.nil_append] at hC9
              refine wl_call cal_7 rfl (new_sp hC9) rfl ?_
              rintro e w9 ⟨_, rfl, p, rfl, hS9⟩; refine ⟨_, rfl, ?_⟩
              replace hS9 := hS9.join rfl; dsimp only [List.dropLast, List.cons_append, List.nil_append] at hS9; clear hC9
              clear hS2
              refine wl_assign rfl rfl ?_
              refine wl_nil ?_
              refine qs_seq ?_
              refine wc_seq ?_
              refine wc_seq ?_
              refine wc_region ?_
              refine wl_move rfl rfl ?_
              refine wl_eqlNil Tryz.underlying25 rfl rfl rfl ?_
              refine wl_nil ?_
              refine qs_seq ?_
              refine wc_condF rfl ?_
              refine wc_skip ?_
              refine qs_seq ?_
              refine wc_seq ?_
              refine wc_region ?_
              refine wl_move rfl rfl ?_
              refine wl_move rfl rfl ?_
              have hC10 := hS9.split [0] [true, false] rfl; dsimp only [selF, pickA, nthA, List.cons_append, List.nil_append] at hC10
              refine wl_call cal_8 rfl (put_sp hC10 kk [118, 97, 108, 117, 101] (by omega) (by simp)) rfl ?_
              rintro e w10 ⟨_, rfl, rfl, hS10⟩; refine ⟨_, rfl, ?_⟩
              replace hS10 := hS10.join rfl; dsimp only [List.dropLast, List.cons_append, List.nil_append] at hS10; clear hC10
              clear hS9
              have hP0 := PI.one (k := kk) (v := [118, 97, 108, 117, 101]) (by omega) (by simp)
              have v0 : (putS emptyW kk [118, 97, 108, 117, 101]).cells kk = [118, 97, 108, 117, 101] := by simp [putS, updC]
              have r0 : RestE (putS emptyW kk [118, 97, 108, 117, 101]) := ⟨fun _ _ => rfl, rfl⟩
              have g0 := gP_key (v := [118, 97, 108, 117, 101]) (id := ot) hkk
              have n0 := keyN_key (v := [118, 97, 108, 117, 101]) hkk
              generalize putS emptyW kk [118, 97, 108, 117, 101] = W0 at hP0 v0 r0 g0 n0 hS10
              refine wl_nil ?_
              refine qs_seq ?_
              refine wc_sub (L' := [(8, _), (7, _), (6, _), (0, _), (1, _), (2, _)]) (.cons rfl (.cons rfl (.cons rfl (.cons rfl (.cons rfl (.cons rfl .nil)))))) ?_
              refine wc_seq ?_
              refine wc_region ?_
              refine wl_move rfl rfl ?_
              refine wl_makeIface nif_25 rfl rfl ?_
              refine wl_move rfl rfl ?_
              have hC11 := hS10.split [0] [true, false] rfl; dsimp only [selF, pickA, nthA, List.cons_append, List.nil_append] at hC11
              refine wl_call cal_19 rfl (pMake_sp hC11 (hG.starL 0 rfl) hP0 (by omega) ot (by omega)) rfl ?_
              rintro e w11 ⟨_, rfl, rfl, hS11⟩; refine ⟨_, rfl, ?_⟩
              replace hS11 := hS11.join rfl; dsimp only [List.dropLast, List.cons_append, List.nil_append] at hS11; clear hC11
              clear hS10
              have m1 := mkG hot g0 (by rw [n0]; decide)
              have hP1 := hP0.make (id := ot) (by omega) (keyN W0)
              have g1 : gP (mkP W0 ot (keyN W0)) ot = some ⟨[], 0, 0⟩ := m1.2
              have v1 : (mkP W0 ot (keyN W0)).cells kk = [118, 97, 108, 117, 101] := by rw [cell_make hkk]; exact v0
              have r1 : RestE (mkP W0 ot (keyN W0)) := r0.make _ _
              generalize mkP W0 ot (keyN W0) = W1 at hP1 g1 v1 r1 hS11
              refine wl_nil ?_
              refine qs_seq ?_
              refine wc_seq ?_
              refine wc_region ?_
              refine wl_move rfl rfl ?_
              refine wl_makeIface nif_25 rfl rfl ?_
              refine wl_move rfl rfl ?_
              have hC12 := hS11.split [0] [true, false] rfl; dsimp only [selF, pickA, nthA, List.cons_append, List.nil_append] at hC12
              refine wl_call cal_20 rfl (pOpen_sp hC12 (hG.starL 0 rfl) hP1 (by omega) ot (by omega) false) rfl ?_
              rintro e w12 ⟨_, rfl, rfl, hS12⟩; refine ⟨_, rfl, ?_⟩
              replace hS12 := hS12.join rfl; dsimp only [List.dropLast, List.cons_append, List.nil_append] at hS12; clear hC12
              clear hS11
              have m2 := opnG g1 (by decide) (by decide) false
              have hP2 := hP1.opn (id := ot) (by omega) false
              have g2 : gP (openP W1 ot false) ot = some ⟨[], 1, 0⟩ := m2.2
              have v2 : (openP W1 ot false).cells kk = [118, 97, 108, 117, 101] := by rw [cell_open hkk]; exact v1
              have r2 : RestE (openP W1 ot false) := r1.opn _ _
              generalize openP W1 ot false = W2 at hP2 g2 v2 r2 hS12
              refine wl_nil ?_
              refine qs_seq ?_
              refine wc_sub (L' := [(8, _), (7, _), (6, _), (0, _), (1, _), (2, _)]) (.cons rfl (.cons rfl (.cons rfl (.cons rfl (.cons rfl (.cons rfl .nil)))))) ?_
              refine wc_seq ?_
              refine wc_region ?_
              refine wl_move rfl rfl ?_
              refine wl_makeIface nif_25 rfl rfl ?_
              refine wl_move rfl rfl ?_
              have hC13 := hS12.split [0] [true, false] rfl; dsimp only [selF, pickA, nthA, List.cons_append, List.nil_append] at hC13
              refine wl_call cal_20 rfl (pOpen_sp hC13 (hG.starL 0 rfl) hP2 (by omega) ot (by omega) true) rfl ?_
              rintro e w13 ⟨_, rfl, rfl, hS13⟩; refine ⟨_, rfl, ?_⟩
              replace hS13 := hS13.join rfl; dsimp only [List.dropLast, List.cons_append, List.nil_append] at hS13; clear hC13
              clear hS12
              have m3 := opnG g2 (by decide) (by decide) true
              have hP3 := hP2.opn (id := ot) (by omega) true
              have g3 : gP (openP W2 ot true) ot = some ⟨[], 1, 1⟩ := m3.2
              have v3 : (openP W2 ot true).cells kk = [118, 97, 108, 117, 101] := by rw [cell_open hkk]; exact v2
              have r3 : RestE (openP W2 ot true) := r2.opn _ _
              generalize openP W2 ot true = W3 at hP3 g3 v3 r3 hS13
              refine wl_nil ?_
              refine qs_seq ?_
              refine wc_seq ?_
              refine wc_region ?_
              refine wl_move rfl rfl ?_
              refine wl_makeIface nif_25 rfl rfl ?_
              refine wl_move rfl rfl ?_
              have hC14 := hS13.split [0] [true, false] rfl; dsimp only [selF, pickA, nthA, List.cons_append, List.nil_append] at hC14
              refine wl_call cal_21 rfl (pWrite_sp hC14 (hG.starL 0 rfl) hP3 (by omega) ot (by omega) [115, 111, 109, 101, 32, 100, 97, 116, 97] (by simp)) rfl ?_
              rintro e w14 ⟨_, rfl, rfl, hS14⟩; refine ⟨_, rfl, ?_⟩
              replace hS14 := hS14.join rfl; dsimp only [List.dropLast, List.cons_append, List.nil_append] at hS14; clear hC14
              clear hS13
              have m4 := writeG g3 [115, 111, 109, 101, 32, 100, 97, 116, 97]
              have hP4 := hP3.write (id := ot) (by omega) [115, 111, 109, 101, 32, 100, 97, 116, 97]
              have g4 : gP (writeP W3 ot [115, 111, 109, 101, 32, 100, 97, 116, 97]) ot = some ⟨[115, 111, 109, 101, 32, 100, 97, 116, 97], 1, 1⟩ := m4
              have v4 : (writeP W3 ot [115, 111, 109, 101, 32, 100, 97, 116, 97]).cells kk = [118, 97, 108, 117, 101] := by rw [cell_write hkk]; exact v3
              have r4 : RestE (writeP W3 ot [115, 111, 109, 101, 32, 100, 97, 116, 97]) := r3.write _ _
              generalize writeP W3 ot [115, 111, 109, 101, 32, 100, 97, 116, 97] = W4 at hP4 g4 v4 r4 hS14
              refine wl_nil ?_
              refine qs_seq ?_
              refine wc_sub (L' := [(8, _), (7, _), (6, _), (0, _), (1, _), (2, _)]) (.cons rfl (.cons rfl (.cons rfl (.cons rfl (.cons rfl (.cons rfl .nil)))))) ?_
              refine wc_seq ?_
              refine wc_seq ?_
              refine wc_region ?_
              refine wl_assign rfl rfl ?_
              refine wl_nil ?_
              refine qs_seq ?_
              refine wc_block ?_
              refine wc_loop (fun K0 E0 W0 => ∃ (i : Nat) (W : WS), K0 = l.length - i ∧ E0 = [(0, .slice ao l.length cap), (1, strV ot), (2, strV kk), (7, .bool true), (8, ptrV p 0), (9, intV (i : Int))] ∧ Sat W0 [worldT p W, F] ∧ (i ≤ l.length) ∧ (ApI W ot kk ⟨[115, 111, 109, 101, 32, 100, 97, 116, 97], 1, 1⟩ (i + 5))) (L0 := [(0, _), (1, _), (2, _), (7, _), (8, _), (9, _)]) (l.length - 0) (.cons rfl (.cons rfl (.cons rfl (.cons rfl (.cons rfl (.cons rfl .nil)))))) ⟨0, _, rfl, rfl, hS14, by omega, ⟨hP4, g4, v4, r4⟩⟩ ?_
              rintro _ _ w15 ⟨i, W, rfl, rfl, hS15, hi, hA⟩
              refine wc_seq ?_
              refine wc_seq ?_
              refine wc_region ?_
              refine wl_move rfl rfl ?_
              refine wl_move rfl rfl ?_
              refine wl_lenL Tryz.underlying22 rfl rfl ?_
              refine wl_lss rfl rfl rfl ?_
              refine wl_nil ?_
              refine qs_seq ?_
              refine wc_condD rfl (fun h16 => ?_) (fun h16 => ?_)
              · skip
                obtain ⟨o, ho⟩ : ∃ o, l[i]? = some o := ⟨_, List.getElem?_eq_getElem (by omega)⟩
                obtain ⟨b, off, rfl, hc⟩ := (hL.sat hS15 1 rfl).get ho
                have hos := fewO_get hfew ho
                refine wc_skip ?_
                refine qs_seq ?_
                refine wc_seq ?_
                refine wc_block ?_
                refine wc_mid (fun E0 W0 => ∃ (W2 : WS), E0 = [(0, .slice (some ⟨b, off, none⟩) l.length cap), (1, strV ot), (2, strV kk), (7, .bool true), (8, ptrV p 0), (9, intV (i : Int))] ∧ Sat W0 [worldT p W2, F] ∧ (ApI W2 ot kk ⟨[115, 111, 109, 101, 32, 100, 97, 116, 97], 1, 1⟩ (i + 1 + 5))) ?_ ?_
                · skip
                  refine wc_seq ?_
                  refine wc_region ?_
                  refine wl_move rfl rfl ?_
                  refine wl_move rfl rfl ?_
                  refine wl_indexAddr i rfl rfl (by first | rfl | omega) (by omega) es_22 rfl ?_
                  refine wl_fieldAddr rfl fo_36_1 rfl ?_
                  refine wl_load rfl ag_9 (rdl_at (C := oC) (j := 1) (hL.sat hS15 1 rfl) ho rfl) rfl ?_
                  refine wl_move rfl rfl ?_
                  refine wl_neqS rfl rfl rfl ?_
                  refine wl_nil ?_
                  refine qs_seq ?_
                  refine wc_sub (L' := [(74, _), (0, _), (1, _), (2, _), (7, _), (8, _), (9, _)]) (.cons rfl (.cons rfl (.cons rfl (.cons rfl (.cons rfl (.cons rfl (.cons rfl .nil))))))) ?_
                  refine wc_condD rfl (fun h18 => ?_) (fun h18 => ?_)
                  · skip
                    have hne := h18
                    refine wc_region ?_
                    refine wl_move rfl rfl ?_
                    refine wl_move rfl rfl ?_
                    refine wl_move rfl rfl ?_
                    refine wl_indexAddr i rfl rfl (by first | rfl | omega) (by omega) es_22 rfl ?_
                    refine wl_loadAt rfl ag_36 sz_36 (vs := oV o) (fun j u hu => rdl_at (hL.sat hS15 1 rfl) ho hu) rfl ?_
                    have hC19 := hS15.split [0] [true, false] rfl; dsimp only [selF, pickA, nthA, List.cons_append, List.nil_append] at hC19
                    refine wl_call cal_10 rfl (pdo_sp hC19 (hG.starL 0 rfl) hA.pi (by omega) o hos) rfl ?_
                    rintro e w19 ⟨_, rfl, rfl, hS19⟩; refine ⟨_, rfl, ?_⟩
                    replace hS19 := hS19.join rfl; dsimp only [List.dropLast, List.cons_append, List.nil_append] at hS19; clear hC19
                    clear hS15
                    refine wl_nil ?_
                    exact qs_mid (.cons rfl (.cons rfl (.cons rfl (.cons rfl (.cons rfl (.cons rfl .nil)))))) ⟨_, rfl, hS19.pick [0, 1] rfl, ⟨by rw [show i + 1 + 5 = i + 5 + 1 by omega]; exact hA.pi.doP hos.1, by rw [gP_doP (fun q => hne q.symm)]; exact hA.pipe, by rw [cell_doP hkk]; exact hA.val, hA.rest.doP o⟩⟩
                  · skip
                    refine wc_skip ?_
                    exact qs_mid (.cons rfl (.cons rfl (.cons rfl (.cons rfl (.cons rfl (.cons rfl .nil)))))) ⟨_, rfl, hS15.pick [0, 1] rfl, ⟨by rw [show i + 1 + 5 = i + 5 + 1 by omega]; exact hA.pi.up, hA.pipe, hA.val, hA.rest⟩⟩
                rintro _ w17 ⟨W2, rfl, hS17, hA2⟩
                refine wc_seq ?_
                refine wc_region ?_
                refine wl_move rfl rfl ?_
                refine wl_makeIface nif_25 rfl rfl ?_
                refine wl_move rfl rfl ?_
                have hC20 := hS17.split [0] [true, false] rfl; dsimp only [selF, pickA, nthA, List.cons_append, List.nil_append] at hC20
                refine wl_call cal_12 rfl (pGet_sp hC20 (hG.starL 0 rfl) ot (by omega) (hA2.pi.len _)) rfl ?_
                rintro e w20 ⟨_, rfl, rfl, hS20⟩; refine ⟨_, rfl, ?_⟩
                replace hS20 := hS20.join rfl; dsimp only [List.dropLast, List.cons_append, List.nil_append] at hS20; clear hC20
                clear hS17
                rw [gB_of hA2.pipe, gD_of hA2.pipe]
                refine wl_move rfl rfl ?_
                refine wl_extract rfl rfl rfl ?_
                refine wl_extract rfl rfl rfl ?_
                refine wl_alloc hS20 zr_39 rfl rfl ?_
                intro b21 w21 hS21
                clear hS20
                first | (refine wl_storeA hS21 rfl rfl sz_39 rfl (by first | rfl | (simp [allOne, Value.oneCell']; done) | assumption | exact hone) (i := 0) rfl (by first | decide | exact Nat.le_of_ble_eq_true rfl | (simp; done) | omega) ?_)
                intro w22 hS23; dsimp only [List.set] at hS23
                clear hS21
                refine wl_assign rfl rfl ?_
                refine wl_nil ?_
                refine qs_seq ?_
                refine wc_sub (L' := [(11, _), (10, _), (0, _), (1, _), (2, _), (7, _), (8, _), (9, _)]) (.cons rfl (.cons rfl (.cons rfl (.cons rfl (.cons rfl (.cons rfl (.cons rfl (.cons rfl .nil)))))))) ?_
                refine wc_seq ?_
                refine wc_region ?_
                refine wl_move rfl rfl ?_
                refine wl_not rfl rfl ?_
                refine wl_move rfl rfl ?_
                refine wl_split 90 rfl (fun h24 => ?_) (fun h24 => ?_)
                · skip
                  simp at h24
                · skip
                  refine wl_guard rfl rfl h24 ?_
                  refine wl_fieldAddr rfl fo_39_0 rfl ?_
                  refine wl_guard rfl rfl h24 ?_
                  refine wl_load rfl ag_9 (by first | assumption | exact hS23.cell 0 rfl rfl) rfl ?_
                  refine wl_guard rfl rfl h24 ?_
                  refine wl_neqS rfl rfl rfl ?_
                  refine wl_pickF rfl h24 rfl rfl ?_
                  refine wl_move rfl rfl ?_
                  refine wl_splitD 95 rfl (fun h25 => ?_) (fun h25 => ?_)
                  · skip
                    exact absurd rfl h25
                  · skip
                    refine wl_guard rfl rfl (decide_eq_false h25) ?_
                    refine wl_fieldAddr rfl fo_39_1 rfl ?_
                    refine wl_guard rfl rfl (decide_eq_false h25) ?_
                    refine wl_load rfl ag_3 (by first | assumption | exact hS23.cell 0 rfl rfl) rfl ?_
                    refine wl_guard rfl rfl (decide_eq_false h25) ?_
                    refine wl_neq rfl rfl rfl ?_
                    refine wl_pickF rfl (decide_eq_false h25) rfl rfl ?_
                    refine wl_move rfl rfl ?_
                    refine wl_splitD 100 rfl (fun h26 => ?_) (fun h26 => ?_)
                    · skip
                      exact absurd rfl h26
                    · skip
                      refine wl_guard rfl rfl (decide_eq_false h26) ?_
                      refine wl_fieldAddr rfl fo_39_2 rfl ?_
                      refine wl_guard rfl rfl (decide_eq_false h26) ?_
                      refine wl_load rfl ag_3 (by first | assumption | exact hS23.cell 0 rfl rfl) rfl ?_
                      refine wl_guard rfl rfl (decide_eq_false h26) ?_
                      refine wl_neq rfl rfl rfl ?_
                      refine wl_pickF rfl (decide_eq_false h26) rfl rfl ?_
                      refine wl_move rfl rfl ?_
                      refine wl_splitD 105 rfl (fun h27 => ?_) (fun h27 => ?_)
                      · skip
                        exact absurd rfl h27
                      · skip
                        refine wl_guard rfl rfl (decide_eq_false h27) ?_
                        refine wl_move rfl rfl ?_
                        refine wl_guard rfl rfl (decide_eq_false h27) ?_
                        refine wl_move rfl rfl ?_
                        refine wl_guard rfl rfl (decide_eq_false h27) ?_
                        have hC28 := hS23.split [1] [false, true, false] rfl; dsimp only [selF, pickA, nthA, List.cons_append, List.nil_append] at hC28
                        refine wl_call cal_14 rfl (get_sp hC28 kk) rfl ?_
                        rintro e w28 ⟨_, rfl, rfl, hS28⟩; refine ⟨_, rfl, ?_⟩
                        replace hS28 := hS28.join rfl; dsimp only [List.dropLast, List.cons_append, List.nil_append] at hS28; clear hC28
                        clear hS23
                        refine wl_guard rfl rfl (decide_eq_false h27) ?_
                        refine wl_neqS rfl rfl rfl ?_
                        refine wl_pickF rfl (decide_eq_false h27) rfl rfl ?_
                        refine wl_nil ?_
                        refine qs_seq ?_
                        refine wc_sub (L' := [(110, _), (0, _), (1, _), (2, _), (7, _), (8, _), (9, _)]) (.cons rfl (.cons rfl (.cons rfl (.cons rfl (.cons rfl (.cons rfl (.cons rfl .nil))))))) ?_
                        refine wc_condD rfl (fun h29 => ?_) (fun h29 => ?_)
                        · skip
                          exact absurd hA2.val h29
                        · skip
                          refine wc_skip ?_
                          refine qs_block_normal ?_
                          refine qs_seq ?_
                          refine wc_region ?_
                          refine wl_move rfl rfl ?_
                          refine wl_add rfl rfl (by first | omega | (simp; omega)) (by first | omega | (simp; omega)) rfl ?_
                          refine wl_assign rfl rfl ?_
                          refine wl_nil ?_
                          exact qs_round (L1 := [(0, _), (1, _), (2, _), (7, _), (8, _), (9, intV ((i + 1 : Nat) : Int))]) (.cons rfl (.cons rfl (.cons rfl (.cons rfl (.cons rfl (.cons rfl .nil)))))) (k1 := l.length - (i + 1)) (by omega) ⟨i + 1, _, rfl, rfl, hS28.pick [0, 2] rfl, by omega, hA2⟩
              · skip
                refine wc_exit ?_
                refine qs_then_exit ?_
                refine qs_then_exit ?_
                refine qs_block_exit ?_
                refine qs_seq ?_
                refine wc_seq ?_
                refine wc_region ?_
                refine wl_move rfl rfl ?_
                refine wl_move rfl rfl ?_
                refine wl_guard rfl rfl rfl ?_
                refine wl_move rfl rfl ?_
                refine wl_guard rfl rfl rfl ?_
                have hC30 := hS15.split [0] [true, false] rfl; dsimp only [selF, pickA, nthA, List.cons_append, List.nil_append] at hC30
                refine wl_call cal_22 rfl (objects_sp hC30 hA.rest.objsIn) rfl ?_
                rintro e w30 ⟨_, rfl, ln, hln, hS30⟩; refine ⟨_, rfl, ?_⟩
                replace hS30 := hS30.join rfl; dsimp only [List.dropLast, List.cons_append, List.nil_append] at hS30; clear hC30
                clear hS15
                obtain rfl := hA.rest.names hln
                refine wl_guard rfl rfl rfl ?_
                refine wl_lenO 0 hS30 Tryz.underlying28 rfl rfl rfl ?_
                refine wl_guard rfl rfl rfl ?_
                refine wl_eql rfl rfl rfl ?_
                refine wl_pickT rfl rfl rfl rfl ?_
                refine wl_move rfl rfl ?_
                refine wl_splitD 118 rfl (fun h31 => ?_) (fun h31 => ?_)
                · skip
                  refine wl_guard rfl rfl (decide_eq_true h31) ?_
                  refine wl_move rfl rfl ?_
                  refine wl_guard rfl rfl (decide_eq_true h31) ?_
                  have hC32 := hS30.split [1] [false, true, false] rfl; dsimp only [selF, pickA, nthA, List.cons_append, List.nil_append] at hC32
                  refine wl_call cal_23 rfl (start_sp hC32) rfl ?_
                  rintro e w32 ⟨_, rfl, rfl, hS32⟩; refine ⟨_, rfl, ?_⟩
                  replace hS32 := hS32.join rfl; dsimp only [List.dropLast, List.cons_append, List.nil_append] at hS32; clear hC32
                  clear hS30
                  rw [hA.rest.2]
                  refine wl_guard rfl rfl (decide_eq_true h31) ?_
                  refine wl_eql rfl rfl rfl ?_
                  refine wl_pickT rfl (decide_eq_true h31) rfl rfl ?_
                  refine wl_assign rfl rfl ?_
                  refine wl_nil ?_
                  refine qs_seq ?_
                  refine wc_sub (L' := [(6, _)]) (.cons rfl .nil) ?_
                  refine wc_ret ?_
                  refine fin1 (.inr rfl) rfl rfl ?_
                  exact ⟨_, rfl, by first | rfl | simp, hS32.pick [2] rfl⟩
                · skip
                  exact absurd rfl h31
          · skip
            have hkk : ∀ t, kk ≠ kP t := kP_not (.inl (by omega))
            refine wl_unwanted rfl rfl (decide_eq_false h7) rfl ?_
            refine wl_unwanted rfl rfl (decide_eq_false h7) rfl ?_
            refine wl_unwanted rfl rfl (decide_eq_false h7) rfl ?_
            refine wl_pickF rfl (decide_eq_false h7) rfl rfl ?_
            refine wl_nil ?_
            refine qs_seq ?_
            refine wc_sub (L' := [(38, _), (7, _), (6, _), (0, _), (1, _), (2, _)]) (.cons rfl (.cons rfl (.cons rfl (.cons rfl (.cons rfl (.cons rfl .nil)))))) ?_
            refine wc_condF rfl ?_
            refine wc_skip ?_
            refine qs_seq ?_
            refine wc_seq ?_
            refine wc_region ?_
            have hC33 := hS2.split [] [false] rfl; dsimp only [selF, pickA, nthA, List.cons_append, List.nil_append] at hC33
            refine wl_call cal_7 rfl (new_sp hC33) rfl ?_
            rintro e w33 ⟨_, rfl, p, rfl, hS33⟩; refine ⟨_, rfl, ?_⟩
            replace hS33 := hS33.join rfl; dsimp only [List.dropLast, List.cons_append, List.nil_append] at hS33; clear hC33
            clear hS2
            refine wl_assign rfl rfl ?_
            refine wl_nil ?_
            refine qs_seq ?_
            refine wc_seq ?_
            refine wc_seq ?_
            refine wc_region ?_
            refine wl_move rfl rfl ?_
            refine wl_eqlNil Tryz.underlying25 rfl rfl rfl ?_
            refine wl_nil ?_
            refine qs_seq ?_
            refine wc_condF rfl ?_
            refine wc_skip ?_
            refine qs_seq ?_
            refine wc_seq ?_
            refine wc_region ?_
            refine wl_move rfl rfl ?_
            refine wl_move rfl rfl ?_
            have hC34 := hS33.split [0] [true, false] rfl; dsimp only [selF, pickA, nthA, List.cons_append, List.nil_append] at hC34
            refine wl_call cal_8 rfl (put_sp hC34 kk [118, 97, 108, 117, 101] (by omega) (by simp)) rfl ?_
            rintro e w34 ⟨_, rfl, rfl, hS34⟩; refine ⟨_, rfl, ?_⟩
            replace hS34 := hS34.join rfl; dsimp only [List.dropLast, List.cons_append, List.nil_append] at hS34; clear hC34
            clear hS33
            have hP0 := PI.one (k := kk) (v := [118, 97, 108, 117, 101]) (by omega) (by simp)
            have v0 : (putS emptyW kk [118, 97, 108, 117, 101]).cells kk = [118, 97, 108, 117, 101] := by simp [putS, updC]
            have r0 : RestE (putS emptyW kk [118, 97, 108, 117, 101]) := ⟨fun _ _ => rfl, rfl⟩
            have g0 := gP_key (v := [118, 97, 108, 117, 101]) (id := ot) hkk
            have n0 := keyN_key (v := [118, 97, 108, 117, 101]) hkk
            generalize putS emptyW kk [118, 97, 108, 117, 101] = W0 at hP0 v0 r0 g0 n0 hS34
            refine wl_nil ?_
            refine qs_seq ?_
            refine wc_sub (L' := [(8, _), (7, _), (6, _), (0, _), (1, _), (2, _)]) (.cons rfl (.cons rfl (.cons rfl (.cons rfl (.cons rfl (.cons rfl .nil)))))) ?_
            refine wc_seq ?_
            refine wc_region ?_
            refine wl_move rfl rfl ?_
            refine wl_makeIface nif_25 rfl rfl ?_
            refine wl_move rfl rfl ?_
            have hC35 := hS34.split [0] [true, false] rfl; dsimp only [selF, pickA, nthA, List.cons_append, List.nil_append] at hC35
            refine wl_call cal_19 rfl (pMake_sp hC35 (hG.starL 0 rfl) hP0 (by omega) ot (by omega)) rfl ?_
            rintro e w35 ⟨_, rfl, rfl, hS35⟩; refine ⟨_, rfl, ?_⟩
            replace hS35 := hS35.join rfl; dsimp only [List.dropLast, List.cons_append, List.nil_append] at hS35; clear hC35
            clear hS34
            have m1 := mkG hot g0 (by rw [n0]; decide)
            have hP1 := hP0.make (id := ot) (by omega) (keyN W0)
            have g1 : gP (mkP W0 ot (keyN W0)) ot = some ⟨[], 0, 0⟩ := m1.2
            have v1 : (mkP W0 ot (keyN W0)).cells kk = [118, 97, 108, 117, 101] := by rw [cell_make hkk]; exact v0
            have r1 : RestE (mkP W0 ot (keyN W0)) := r0.make _ _
            generalize mkP W0 ot (keyN W0) = W1 at hP1 g1 v1 r1 hS35
            refine wl_nil ?_
            refine qs_seq ?_
            refine wc_seq ?_
            refine wc_region ?_
            refine wl_move rfl rfl ?_
            refine wl_makeIface nif_25 rfl rfl ?_
            refine wl_move rfl rfl ?_
            have hC36 := hS35.split [0] [true, false] rfl; dsimp only [selF, pickA, nthA, List.cons_append, List.nil_append] at hC36
            refine wl_call cal_20 rfl (pOpen_sp hC36 (hG.starL 0 rfl) hP1 (by omega) ot (by omega) false) rfl ?_
            rintro e w36 ⟨_, rfl, rfl, hS36⟩; refine ⟨_, rfl, ?_⟩
            replace hS36 := hS36.join rfl; dsimp only [List.dropLast, List.cons_append, List.nil_append] at hS36; clear hC36
            clear hS35
            have m2 := opnG g1 (by decide) (by decide) false
            have hP2 := hP1.opn (id := ot) (by omega) false
            have g2 : gP (openP W1 ot false) ot = some ⟨[], 1, 0⟩ := m2.2
            have v2 : (openP W1 ot false).cells kk = [118, 97, 108, 117, 101] := by rw [cell_open hkk]; exact v1
            have r2 : RestE (openP W1 ot false) := r1.opn _ _
            generalize openP W1 ot false = W2 at hP2 g2 v2 r2 hS36
            refine wl_nil ?_
            refine qs_seq ?_
            refine wc_sub (L' := [(8, _), (7, _), (6, _), (0, _), (1, _), (2, _)]) (.cons rfl (.cons rfl (.cons rfl (.cons rfl (.cons rfl (.cons rfl .nil)))))) ?_
            refine wc_seq ?_
            refine wc_region ?_
            refine wl_move rfl rfl ?_
            refine wl_makeIface nif_25 rfl rfl ?_
            refine wl_move rfl rfl ?_
            have hC37 := hS36.split [0] [true, false] rfl; dsimp only [selF, pickA, nthA, List.cons_append, List.nil_append] at hC37
            refine wl_call cal_20 rfl (pOpen_sp hC37 (hG.starL 0 rfl) hP2 (by omega) ot (by omega) true) rfl ?_
            rintro e w37 ⟨_, rfl, rfl, hS37⟩; refine ⟨_, rfl, ?_⟩
            replace hS37 := hS37.join rfl; dsimp only [List.dropLast, List.cons_append, List.nil_append] at hS37; clear hC37
            clear hS36
            have m3 := opnG g2 (by decide) (by decide) true
            have hP3 := hP2.opn (id := ot) (by omega) true
            have g3 : gP (openP W2 ot true) ot = some ⟨[], 1, 1⟩ := m3.2
            have v3 : (openP W2 ot true).cells kk = [118, 97, 108, 117, 101] := by rw [cell_open hkk]; exact v2
            have r3 : RestE (openP W2 ot true) := r2.opn _ _
            generalize openP W2 ot true = W3 at hP3 g3 v3 r3 hS37
            refine wl_nil ?_
            refine qs_seq ?_
            refine wc_seq ?_
            refine wc_region ?_
            refine wl_move rfl rfl ?_
            refine wl_makeIface nif_25 rfl rfl ?_
            refine wl_move rfl rfl ?_
            have hC38 := hS37.split [0] [true, false] rfl; dsimp only [selF, pickA, nthA, List.cons_append, List.nil_append] at hC38
            refine wl_call cal_21 rfl (pWrite_sp hC38 (hG.starL 0 rfl) hP3 (by omega) ot (by omega) [115, 111, 109, 101, 32, 100, 97, 116, 97] (by simp)) rfl ?_
            rintro e w38 ⟨_, rfl, rfl, hS38⟩; refine ⟨_, rfl, ?_⟩
            replace hS38 := hS38.join rfl; dsimp only [List.dropLast, List.cons_append, List.nil_append] at hS38; clear hC38
            clear hS37
            have m4 := writeG g3 [115, 111, 109, 101, 32, 100, 97, 116, 97]
            have hP4 := hP3.write (id := ot) (by omega) [115, 111, 109, 101, 32, 100, 97, 116, 97]
            have g4 : gP (writeP W3 ot [115, 111, 109, 101, 32, 100, 97, 116, 97]) ot = some ⟨[115, 111, 109, 101, 32, 100, 97, 116, 97], 1, 1⟩ := m4
            have v4 : (writeP W3 ot [115, 111, 109, 101, 32, 100, 97, 116, 97]).cells kk = [118, 97, 108, 117, 101] := by rw [cell_write hkk]; exact v3
            have r4 : RestE (writeP W3 ot [115, 111, 109, 101, 32, 100, 97, 116, 97]) := r3.write _ _
            generalize writeP W3 ot [115, 111, 109, 101, 32, 100, 97, 116, 97] = W4 at hP4 g4 v4 r4 hS38
            refine wl_nil ?_
            refine qs_seq ?_
            refine wc_sub (L' := [(8, _), (7, _), (6, _), (0, _), (1, _), (2, _)]) (.cons rfl (.cons rfl (.cons rfl (.cons rfl (.cons rfl (.cons rfl .nil)))))) ?_
            refine wc_seq ?_
            refine wc_seq ?_
            refine wc_region ?_
            refine wl_assign rfl rfl ?_
            refine wl_nil ?_
            refine qs_seq ?_
            refine wc_block ?_
            refine wc_loop (fun K0 E0 W0 => ∃ (i : Nat) (W : WS), K0 = l.length - i ∧ E0 = [(0, .slice ao l.length cap), (1, strV ot), (2, strV kk), (7, .bool true), (8, ptrV p 0), (9, intV (i : Int))] ∧ Sat W0 [worldT p W, F] ∧ (i ≤ l.length) ∧ (ApI W ot kk ⟨[115, 111, 109, 101, 32, 100, 97, 116, 97], 1, 1⟩ (i + 5))) (L0 := [(0, _), (1, _), (2, _), (7, _), (8, _), (9, _)]) (l.length - 0) (.cons rfl (.cons rfl (.cons rfl (.cons rfl (.cons rfl (.cons rfl .nil)))))) ⟨0, _, rfl, rfl, hS38, by omega, ⟨hP4, g4, v4, r4⟩⟩ ?_
            rintro _ _ w39 ⟨i, W, rfl, rfl, hS39, hi, hA⟩
            refine wc_seq ?_
            refine wc_seq ?_
            refine wc_region ?_
            refine wl_move rfl rfl ?_
            refine wl_move rfl rfl ?_
            refine wl_lenL Tryz.underlying22 rfl rfl ?_
            refine wl_lss rfl rfl rfl ?_
            refine wl_nil ?_
            refine qs_seq ?_
            refine wc_condD rfl (fun h40 => ?_) (fun h40 => ?_)
            · skip
              obtain ⟨o, ho⟩ : ∃ o, l[i]? = some o := ⟨_, List.getElem?_eq_getElem (by omega)⟩
              obtain ⟨b, off, rfl, hc⟩ := (hL.sat hS39 1 rfl).get ho
              have hos := fewO_get hfew ho
              refine wc_skip ?_
              refine qs_seq ?_
              refine wc_seq ?_
              refine wc_block ?_
              refine wc_mid (fun E0 W0 => ∃ (W2 : WS), E0 = [(0, .slice (some ⟨b, off, none⟩) l.length cap), (1, strV ot), (2, strV kk), (7, .bool true), (8, ptrV p 0), (9, intV (i : Int))] ∧ Sat W0 [worldT p W2, F] ∧ (ApI W2 ot kk ⟨[115, 111, 109, 101, 32, 100, 97, 116, 97], 1, 1⟩ (i + 1 + 5))) ?_ ?_
              · skip
                refine wc_seq ?_
                refine wc_region ?_
                refine wl_move rfl rfl ?_
                refine wl_move rfl rfl ?_
                refine wl_indexAddr i rfl rfl (by first | rfl | omega) (by omega) es_22 rfl ?_
                refine wl_fieldAddr rfl fo_36_1 rfl ?_
                refine wl_load rfl ag_9 (rdl_at (C := oC) (j := 1) (hL.sat hS39 1 rfl) ho rfl) rfl ?_
                refine wl_move rfl rfl ?_
                refine wl_neqS rfl rfl rfl ?_
                refine wl_nil ?_
                refine qs_seq ?_
                refine wc_sub (L' := [(74, _), (0, _), (1, _), (2, _), (7, _), (8, _), (9, _)]) (.cons rfl (.cons rfl (.cons rfl (.cons rfl (.cons rfl (.cons rfl (.cons rfl .nil))))))) ?_
                refine wc_condD rfl (fun h42 => ?_) (fun h42 => ?_)
                · skip
                  have hne := h42
                  refine wc_region ?_
                  refine wl_move rfl rfl ?_
                  refine wl_move rfl rfl ?_
                  refine wl_move rfl rfl ?_
                  refine wl_indexAddr i rfl rfl (by first | rfl | omega) (by omega) es_22 rfl ?_
                  refine wl_loadAt rfl ag_36 sz_36 (vs := oV o) (fun j u hu => rdl_at (hL.sat hS39 1 rfl) ho hu) rfl ?_
                  have hC43 := hS39.split [0] [true, false] rfl; dsimp only [selF, pickA, nthA, List.cons_append, List.nil_append] at hC43
                  refine wl_call cal_10 rfl (pdo_sp hC43 (hG.starL 0 rfl) hA.pi (by omega) o hos) rfl ?_
                  rintro e w43 ⟨_, rfl, rfl, hS43⟩; refine ⟨_, rfl, ?_⟩
                  replace hS43 := hS43.join rfl; dsimp only [List.dropLast, List.cons_append, List.nil_append] at hS43; clear hC43
                  clear hS39
                  refine wl_nil ?_
                  exact qs_mid (.cons rfl (.cons rfl (.cons rfl (.cons rfl (.cons rfl (.cons rfl .nil)))))) ⟨_, rfl, hS43.pick [0, 1] rfl, ⟨by rw [show i + 1 + 5 = i + 5 + 1 by omega]; exact hA.pi.doP hos.1, by rw [gP_doP (fun q => hne q.symm)]; exact hA.pipe, by rw [cell_doP hkk]; exact hA.val, hA.rest.doP o⟩⟩
                · skip
                  refine wc_skip ?_
                  exact qs_mid (.cons rfl (.cons rfl (.cons rfl (.cons rfl (.cons rfl (.cons rfl .nil)))))) ⟨_, rfl, hS39.pick [0, 1] rfl, ⟨by rw [show i + 1 + 5 = i + 5 + 1 by omega]; exact hA.pi.up, hA.pipe, hA.val, hA.rest⟩⟩
              rintro _ w41 ⟨W2, rfl, hS41, hA2⟩
              refine wc_seq ?_
              refine wc_region ?_
              refine wl_move rfl rfl ?_
              refine wl_makeIface nif_25 rfl rfl ?_
              refine wl_move rfl rfl ?_
              have hC44 := hS41.split [0] [true, false] rfl; dsimp only [selF, pickA, nthA, List.cons_append, List.nil_append] at hC44
              refine wl_call cal_12 rfl (pGet_sp hC44 (hG.starL 0 rfl) ot (by omega) (hA2.pi.len _)) rfl ?_
              rintro e w44 ⟨_, rfl, rfl, hS44⟩; refine ⟨_, rfl, ?_⟩
              replace hS44 := hS44.join rfl; dsimp only [List.dropLast, List.cons_append, List.nil_append] at hS44; clear hC44
              clear hS41
              rw [gB_of hA2.pipe, gD_of hA2.pipe]
              refine wl_move rfl rfl ?_
              refine wl_extract rfl rfl rfl ?_
              refine wl_extract rfl rfl rfl ?_
              refine wl_alloc hS44 zr_39 rfl rfl ?_
              intro b45 w45 hS45
              clear hS44
              first | (refine wl_storeA hS45 rfl rfl sz_39 rfl (by first | rfl | (simp [allOne, Value.oneCell']; done) | assumption | exact hone) (i := 0) rfl (by first | decide | exact Nat.le_of_ble_eq_true rfl | (simp; done) | omega) ?_)
              intro w46 hS47; dsimp only [List.set] at hS47
              clear hS45
              refine wl_assign rfl rfl ?_
              refine wl_nil ?_
              refine qs_seq ?_
              refine wc_sub (L' := [(11, _), (10, _), (0, _), (1, _), (2, _), (7, _), (8, _), (9, _)]) (.cons rfl (.cons rfl (.cons rfl (.cons rfl (.cons rfl (.cons rfl (.cons rfl (.cons rfl .nil)))))))) ?_
              refine wc_seq ?_
              refine wc_region ?_
              refine wl_move rfl rfl ?_
              refine wl_not rfl rfl ?_
              refine wl_move rfl rfl ?_
              refine wl_split 90 rfl (fun h48 => ?_) (fun h48 => ?_)
              · skip
                simp at h48
              · skip
                refine wl_guard rfl rfl h48 ?_
                refine wl_fieldAddr rfl fo_39_0 rfl ?_
                refine wl_guard rfl rfl h48 ?_
                refine wl_load rfl ag_9 (by first | assumption | exact hS47.cell 0 rfl rfl) rfl ?_
                refine wl_guard rfl rfl h48 ?_
                refine wl_neqS rfl rfl rfl ?_
                refine wl_pickF rfl h48 rfl rfl ?_
                refine wl_move rfl rfl ?_
                refine wl_splitD 95 rfl (fun h49 => ?_) (fun h49 => ?_)
                · skip
                  exact absurd rfl h49
                · skip
                  refine wl_guard rfl rfl (decide_eq_false h49) ?_
                  refine wl_fieldAddr rfl fo_39_1 rfl ?_
                  refine wl_guard rfl rfl (decide_eq_false h49) ?_
                  refine wl_load rfl ag_3 (by first | assumption | exact hS47.cell 0 rfl rfl) rfl ?_
                  refine wl_guard rfl rfl (decide_eq_false h49) ?_
                  refine wl_neq rfl rfl rfl ?_
                  refine wl_pickF rfl (decide_eq_false h49) rfl rfl ?_
                  refine wl_move rfl rfl ?_
                  refine wl_splitD 100 rfl (fun h50 => ?_) (fun h50 => ?_)
                  · skip
                    exact absurd rfl h50
                  · skip
                    refine wl_guard rfl rfl (decide_eq_false h50) ?_
                    refine wl_fieldAddr rfl fo_39_2 rfl ?_
                    refine wl_guard rfl rfl (decide_eq_false h50) ?_
                    refine wl_load rfl ag_3 (by first | assumption | exact hS47.cell 0 rfl rfl) rfl ?_
                    refine wl_guard rfl rfl (decide_eq_false h50) ?_
                    refine wl_neq rfl rfl rfl ?_
                    refine wl_pickF rfl (decide_eq_false h50) rfl rfl ?_
                    refine wl_move rfl rfl ?_
                    refine wl_splitD 105 rfl (fun h51 => ?_) (fun h51 => ?_)
                    · skip
                      exact absurd rfl h51
                    · skip
                      refine wl_guard rfl rfl (decide_eq_false h51) ?_
                      refine wl_move rfl rfl ?_
                      refine wl_guard rfl rfl (decide_eq_false h51) ?_
                      refine wl_move rfl rfl ?_
                      refine wl_guard rfl rfl (decide_eq_false h51) ?_
                      have hC52 := hS47.split [1] [false, true, false] rfl; dsimp only [selF, pickA, nthA, List.cons_append, List.nil_append] at hC52
                      refine wl_call cal_14 rfl (get_sp hC52 kk) rfl ?_
                      rintro e w52 ⟨_, rfl, rfl, hS52⟩; refine ⟨_, rfl, ?_⟩
                      replace hS52 := hS52.join rfl; dsimp only [List.dropLast, List.cons_append, List.nil_append] at hS52; clear hC52
                      clear hS47
                      refine wl_guard rfl rfl (decide_eq_false h51) ?_
                      refine wl_neqS rfl rfl rfl ?_
                      refine wl_pickF rfl (decide_eq_false h51) rfl rfl ?_
                      refine wl_nil ?_
                      refine qs_seq ?_
                      refine wc_sub (L' := [(110, _), (0, _), (1, _), (2, _), (7, _), (8, _), (9, _)]) (.cons rfl (.cons rfl (.cons rfl (.cons rfl (.cons rfl (.cons rfl (.cons rfl .nil))))))) ?_
                      refine wc_condD rfl (fun h53 => ?_) (fun h53 => ?_)
                      · skip
                        exact absurd hA2.val h53
                      · skip
                        refine wc_skip ?_
                        refine qs_block_normal ?_
                        refine qs_seq ?_
                        refine wc_region ?_
                        refine wl_move rfl rfl ?_
                        refine wl_add rfl rfl (by first | omega | (simp; omega)) (by first | omega | (simp; omega)) rfl ?_
                        refine wl_assign rfl rfl ?_
                        refine wl_nil ?_
                        exact qs_round (L1 := [(0, _), (1, _), (2, _), (7, _), (8, _), (9, intV ((i + 1 : Nat) : Int))]) (.cons rfl (.cons rfl (.cons rfl (.cons rfl (.cons rfl (.cons rfl .nil)))))) (k1 := l.length - (i + 1)) (by omega) ⟨i + 1, _, rfl, rfl, hS52.pick [0, 2] rfl, by omega, hA2⟩
            · skip
              refine wc_exit ?_
              refine qs_then_exit ?_
              refine qs_then_exit ?_
              refine qs_block_exit ?_
              refine qs_seq ?_
              refine wc_seq ?_
              refine wc_region ?_
              refine wl_move rfl rfl ?_
              refine wl_move rfl rfl ?_
              refine wl_guard rfl rfl rfl ?_
              refine wl_move rfl rfl ?_
              refine wl_guard rfl rfl rfl ?_
              have hC54 := hS39.split [0] [true, false] rfl; dsimp only [selF, pickA, nthA, List.cons_append, List.nil_append] at hC54
              refine wl_call cal_22 rfl (objects_sp hC54 hA.rest.objsIn) rfl ?_
              rintro e w54 ⟨_, rfl, ln, hln, hS54⟩; refine ⟨_, rfl, ?_⟩
              replace hS54 := hS54.join rfl; dsimp only [List.dropLast, List.cons_append, List.nil_append] at hS54; clear hC54
              clear hS39
              obtain rfl := hA.rest.names hln
              refine wl_guard rfl rfl rfl ?_
              refine wl_lenO 0 hS54 Tryz.underlying28 rfl rfl rfl ?_
              refine wl_guard rfl rfl rfl ?_
              refine wl_eql rfl rfl rfl ?_
              refine wl_pickT rfl rfl rfl rfl ?_
              refine wl_move rfl rfl ?_
              refine wl_splitD 118 rfl (fun h55 => ?_) (fun h55 => ?_)
              · skip
                refine wl_guard rfl rfl (decide_eq_true h55) ?_
                refine wl_move rfl rfl ?_
                refine wl_guard rfl rfl (decide_eq_true h55) ?_
                have hC56 := hS54.split [1] [false, true, false] rfl; dsimp only [selF, pickA, nthA, List.cons_append, List.nil_append] at hC56
                refine wl_call cal_23 rfl (start_sp hC56) rfl ?_
                rintro e w56 ⟨_, rfl, rfl, hS56⟩; refine ⟨_, rfl, ?_⟩
                replace hS56 := hS56.join rfl; dsimp only [List.dropLast, List.cons_append, List.nil_append] at hS56; clear hC56
                clear hS54
                rw [hA.rest.2]
                refine wl_guard rfl rfl (decide_eq_true h55) ?_
                refine wl_eql rfl rfl rfl ?_
                refine wl_pickT rfl (decide_eq_true h55) rfl rfl ?_
                refine wl_assign rfl rfl ?_
                refine wl_nil ?_
                refine qs_seq ?_
                refine wc_sub (L' := [(6, _)]) (.cons rfl .nil) ?_
                refine wc_ret ?_
                refine fin1 (.inr rfl) rfl rfl ?_
                exact ⟨_, rfl, by first | rfl | simp, hS56.pick [2] rfl⟩
              · skip
                exact absurd rfl h55

end Go.Proofs.YtgnhfhhmipcgcaaGreatDoor
