/- laws of procs: ProcsKeep -/
import Derived.Test.YtcbdclhoekokpaaGreatDoorPd4
import Derived.Test.YtcbdclhoekokpaaGreatDoorPc8
import Derived.ChangeKeysEq
import Derived.Laws.StructEq
namespace Go.Proofs.YtcbdclhoekokpaaGreatDoor
open Go.RowKit M
set_option linter.unusedVariables false
theorem opV_one {o : OpR} (h1 : o.av.oneCell' = true) (h2 : o.fv.oneCell' = true) : allOne (opV o) = true := by
  have h := procV_one (x := o.x) h1 h2
  unfold opV allOne at *
  simpa [Value.oneCell'] using h
theorem do_self {W W2 : WS} {o : OpR} (hd : DoP W o W2) (hw : WFR o.x) (hl : (encR o.x).length ≤ 1000000) :
    (o.k % 4 < 2 → getW W2 (hq o.x 0) = if 1 ≤ hq o.x 0 ∧ hq o.x 0 ≤ 999999 then some o.x else none) ∧ (o.k % 4 = 2 → getW W2 (hq o.x 0) = none) ∧ (o.k % 4 < 3 → ∀ n, n ≠ hq o.x 0 → getW W2 n = getW W n) := by
  rcases hd with ⟨h1, rfl⟩ | ⟨h1, _⟩ | ⟨h1, rfl⟩
  · refine ⟨fun q => by omega, fun _ => by rw [getW_rm, if_pos rfl], fun _ n hn => by rw [getW_rm, if_neg hn]⟩
  · exact ⟨fun q => by omega, fun q => by omega, fun q => by omega⟩
  · refine ⟨fun _ => ?_, fun q => by omega, fun _ n hn => by rw [getW_put hw hl, if_neg fun q => hn q.2]⟩
    rw [getW_put hw hl]
    by_cases q : 1 ≤ hq o.x 0 ∧ hq o.x 0 ≤ 999999
    · rw [if_pos ⟨fun r => keyP_nil.1 r q, rfl⟩, if_pos q]
    · rw [if_neg fun r => r.1 (keyP_nil.2 q), if_neg q, getW_bad (keyP_nil.2 q)]
theorem getD_len {W : WS} (hB : TB W) (n : Int) : ((getW W n).getD zeroP).ar.length ≤ 1000000 ∧ ((getW W n).getD zeroP).fds.length ≤ 1000000 := by
  cases h : getW W n with
  | none => exact ⟨Nat.zero_le _, Nat.zero_le _⟩
  | some x => exact ⟨(getW_wf hB h).1.al, (getW_wf hB h).1.fdl⟩
theorem in_pids {W : WS} {kl : List Bs} (hk : KeysOf W.cells [80, 47] kl) (n : Int) : (pidsF W (fun _ => true) kl).contains n = (getW W n).isSome := by
  rw [Bool.eq_iff_iff, List.contains_iff_mem, mem_pids hk]
  cases getW W n <;> simp
theorem asc_step {l : List Int} (h : l.Pairwise (· < ·)) {k : Nat} {a b : Int} (h1 : l[k - 1]? = some a) (h2 : l[k]? = some b) (hk : 0 < k) : a < b := by
  obtain ⟨i1, rfl⟩ := List.getElem?_eq_some_iff.1 h1
  obtain ⟨i2, rfl⟩ := List.getElem?_eq_some_iff.1 h2
  exact List.pairwise_iff_getElem.1 h _ _ i1 i2 (by omega)
theorem take_contains {l : List Int} {k : Nat} {z other : Int} (hz : l[k]? = some z) : (l.take (k + 1)).contains other = ((l.take k).contains other || decide (z = other)) := by
  rw [Bool.eq_iff_iff, Bool.or_eq_true, List.contains_iff_mem, List.contains_iff_mem, List.take_add_one, hz, List.mem_append, decide_eq_true_iff]
  show _ ∨ other ∈ [z] ↔ _
  rw [List.mem_singleton]
  constructor
  · rintro (q | q)
    · exact .inl q
    · exact .inr q.symm
  · rintro (q | q)
    · exact .inl q
    · exact .inr q.symm
set_option maxRecDepth 100000 in
set_option maxHeartbeats 2000000 in
theorem keep_law {w : World} {F : Th} (hS : Sat w [F]) (hG : Ent F WireG) {lv : Value} {l : List OpR} (hO : Ent F (OrRd lv l)) (other : Int) :
    Calls Tryz.prog 3 #[lv, intV other] w (Ret fun v w' => v = .bool true ∧ Sat w' [F]) := by
  obtain ⟨ao, cap, rfl, hmax⟩ := (hO.sat hS 0 rfl).shape
  refine calls_enter Tryz.func3 rfl Tryz.ntmps3 rfl ?_
  refine wc_seq ?_
  refine wc_region ?_
  refine wl_assign rfl rfl ?_
  refine wl_nil ?_
  refine qs_seq ?_
  refine wc_seq ?_
  refine wc_region ?_
  have hC1 := hS.split [] [false] rfl; dsimp only [selF, pickA, nthA, List.cons_append, List.nil_append] at hC1
  refine wl_call cal_8 rfl (small28_sp hC1 (hG.starL 0 rfl)) rfl ?_
  rintro e w1 ⟨_, rfl, rfl, hS1⟩; refine ⟨_, rfl, ?_⟩
  replace hS1 := hS1.join rfl; dsimp only [List.dropLast, List.cons_append, List.nil_append] at hS1; clear hC1
  refine wl_assign rfl rfl ?_
  refine wl_nil ?_
  refine qs_seq ?_
  refine wc_seq ?_
  refine wc_seq ?_
  refine wc_region ?_
  refine wl_move rfl rfl ?_
  have hC2 := hS1.split [] [false] rfl; dsimp only [selF, pickA, nthA, List.cons_append, List.nil_append] at hC2
  refine wl_call cal_9 rfl (few_sp hC2 (hO.starL 0 rfl) 30) rfl ?_
  rintro e w2 ⟨_, rfl, lb, rfl, hb, hS2⟩; refine ⟨_, rfl, ?_⟩
  replace hS2 := hS2.join rfl; dsimp only [List.dropLast, List.cons_append, List.nil_append] at hS2; clear hC2
  clear hS1
  refine wl_not rfl rfl ?_
  refine wl_nil ?_
  refine qs_seq ?_
  refine wc_cond rfl (fun h3 => ?_) (fun h3 => ?_)
  · skip
    refine wc_seq ?_
    refine wc_region ?_
    refine wl_move rfl rfl ?_
    refine wl_assign rfl rfl ?_
    refine wl_nil ?_
    refine qs_seq ?_
    refine wc_ret ?_
    refine qs_then_ret ?_
    refine fin1 (.inr rfl) rfl rfl ?_
    exact ⟨_, rfl, by first | rfl | (simp; done), hS2.pick [0] rfl⟩
  · skip
    have hfew : FewR 30 l := hb (by simpa using h3)
    have hll : l.length ≤ 30 := by have := hfew.1; omega
    refine wc_skip ?_
    refine qs_seq ?_
    refine wc_seq ?_
    refine wc_region ?_
    have hC4 := hS2.split [] [false] rfl; dsimp only [selF, pickA, nthA, List.cons_append, List.nil_append] at hC4
    refine wl_call cal_10 rfl (new_sp hC4) rfl ?_
    rintro e w4 ⟨_, rfl, p, rfl, hS4⟩; refine ⟨_, rfl, ?_⟩
    replace hS4 := hS4.join rfl; dsimp only [List.dropLast, List.cons_append, List.nil_append] at hS4; clear hC4
    clear hS2
    refine wl_assign rfl rfl ?_
    refine wl_nil ?_
    refine qs_seq ?_
    refine wc_seq ?_
    refine wc_seq ?_
    refine wc_region ?_
    refine wl_move rfl rfl ?_
    refine wl_eqlNil Tryz.underlying25 rfl rfl rfl ?_
    refine wl_nil ?_
    refine qs_seq ?_
    refine wc_sub (L' := [(30, _), (6, _), (5, _), (4, _), (0, _), (1, _)]) (.cons rfl (.cons rfl (.cons rfl (.cons rfl (.cons rfl (.cons rfl .nil)))))) ?_
    refine wc_condF rfl ?_
    refine wc_skip ?_
    refine qs_seq ?_
    refine wc_seq ?_
    refine wc_seq ?_
    refine wc_region ?_
    refine wl_assign rfl rfl ?_
    refine wl_nil ?_
    refine qs_seq ?_
    refine wc_block ?_
    refine wc_loop (fun K0 E0 W0 => ∃ (i : Nat) (W : WS), K0 = l.length - i ∧ E0 = [(0, .slice ao l.length cap), (1, intV other), (5, .bool true), (6, ptrV p 0), (7, intV (i : Int))] ∧ Sat W0 [worldT p W, F] ∧ (i ≤ l.length) ∧ (PInv W i)) (L0 := [(0, _), (1, _), (5, _), (6, _), (7, _)]) (l.length - 0) (.cons rfl (.cons rfl (.cons rfl (.cons rfl (.cons rfl .nil))))) ⟨0, _, rfl, rfl, hS4.pick [0, 1] rfl, by omega, PInv.empty⟩ ?_
    rintro _ _ w5 ⟨i, W, rfl, rfl, hS5, hi, hP⟩
    refine wc_seq ?_
    refine wc_seq ?_
    refine wc_region ?_
    refine wl_move rfl rfl ?_
    refine wl_move rfl rfl ?_
    refine wl_lenL Tryz.underlying22 rfl rfl ?_
    refine wl_lss rfl rfl rfl ?_
    refine wl_nil ?_
    refine qs_seq ?_
    refine wc_condD rfl (fun h6 => ?_) (fun h6 => ?_)
    · skip
      obtain ⟨o, ho⟩ : ∃ o, l[i]? = some o := ⟨_, List.getElem?_eq_getElem (by omega)⟩
      have hLA : Ent F (RdL arC o.av o.x.ar) := fun {w G} g => (RdX.elem hO ho g).1
      have hLF : Ent F (RdL stC o.fv o.x.fds) := fun {w G} g => (RdX.elem hO ho g).2.1
      obtain ⟨⟨b, off, rfl, hc⟩, _, _, hwf0⟩ := (hO.sat hS5 1 rfl).get ho
      have hone : allOne (opV o) = true := by obtain ⟨q1, q2, q3, _⟩ := (Ent.sat hLA hS5 1 rfl).shape; obtain ⟨r1, r2, r3, _⟩ := (Ent.sat hLF hS5 1 rfl).shape; exact opV_one (by rw [q3]; rfl) (by rw [r3]; rfl)
      have hlt := hfew.2 o (List.mem_of_getElem? ho)
      have hwo := hlt.wfr hwf0
      have hlo := hlt.len hwf0
      refine wc_skip ?_
      refine qs_seq ?_
      refine wc_seq ?_
      refine wc_block ?_
      refine wc_seq ?_
      refine wc_region ?_
      refine wl_move rfl rfl ?_
      refine wl_move rfl rfl ?_
      refine wl_indexAddr i rfl rfl (by first | rfl | omega) (by omega) es_22 rfl ?_
      refine wl_loadAt rfl ag_40 sz_40 (vs := opV o) ((hO.sat hS5 1 rfl).cells ho) rfl ?_
      refine wl_alloc hS5 zr_40 rfl rfl ?_
      intro bo w7 hS7
      clear hS5
      refine wl_storeA hS7 rfl rfl sz_40 rfl (by first | rfl | (simp [allOne, Value.oneCell']; done) | assumption) (i := 0) rfl (by first | decide | exact Nat.le_of_ble_eq_true rfl | (simp; done) | omega) ?_
      intro w8 hS8; dsimp only [List.set] at hS8
      clear hS7
      rw [splice_all _ _ (by rfl)] at hS8
      refine wl_nil ?_
      refine qs_seq ?_
      refine wc_sub (L' := [(8, _), (0, _), (1, _), (5, _), (6, _), (7, _)]) (.cons rfl (.cons rfl (.cons rfl (.cons rfl (.cons rfl (.cons rfl .nil)))))) ?_
      refine wc_mid (fun E0 W0 => ∃ (vb : Bool), E0 = [(0, .slice (some ⟨b, off, none⟩) l.length cap), (1, intV other), (5, .bool true), (6, ptrV p 0), (7, intV (i : Int)), (8, ptrV bo 0), (9, .bool vb)] ∧ Sat W0 [blkT bo (opV o), worldT p W, F] ∧ (vb = true ↔ 1 ≤ hq o.x 0 ∧ hq o.x 0 ≤ 999999)) ?_ ?_
      · skip
        refine wc_region ?_
        refine wl_fieldAddr rfl fo_40_1 rfl ?_
        refine wl_fieldAddr rfl fo_38_0 rfl ?_
        refine wl_load rfl ag_3 (by first | assumption | exact hS8.cell 0 rfl rfl) rfl ?_
        refine wl_geq rfl rfl rfl ?_
        refine wl_move rfl rfl ?_
        refine wl_splitD 45 rfl (fun h10 => ?_) (fun h10 => ?_)
        · skip
          refine wl_guard rfl rfl (decide_eq_true h10) ?_
          refine wl_fieldAddr rfl fo_40_1 rfl ?_
          refine wl_guard rfl rfl (decide_eq_true h10) ?_
          refine wl_fieldAddr rfl fo_38_0 rfl ?_
          refine wl_guard rfl rfl (decide_eq_true h10) ?_
          refine wl_load rfl ag_3 (by first | assumption | exact hS8.cell 0 rfl rfl) rfl ?_
          refine wl_guard rfl rfl (decide_eq_true h10) ?_
          refine wl_leq rfl rfl rfl ?_
          refine wl_pickT rfl (decide_eq_true h10) rfl rfl ?_
          refine wl_assign rfl rfl ?_
          refine wl_nil ?_
          exact qs_mid (L' := [(0, _), (1, _), (5, _), (6, _), (7, _), (8, _), (9, _)]) (.cons rfl (.cons rfl (.cons rfl (.cons rfl (.cons rfl (.cons rfl (.cons rfl .nil))))))) ⟨_, rfl, hS8.pick [0, 1, 2] rfl, by first | (simp; omega) | (simp; done) | omega⟩
        · skip
          refine wl_unwanted rfl rfl (decide_eq_false h10) rfl ?_
          refine wl_unwanted rfl rfl (decide_eq_false h10) rfl ?_
          refine wl_unwanted rfl rfl (decide_eq_false h10) rfl ?_
          refine wl_unwanted rfl rfl (decide_eq_false h10) rfl ?_
          refine wl_pickF rfl (decide_eq_false h10) rfl rfl ?_
          refine wl_assign rfl rfl ?_
          refine wl_nil ?_
          exact qs_mid (L' := [(0, _), (1, _), (5, _), (6, _), (7, _), (8, _), (9, _)]) (.cons rfl (.cons rfl (.cons rfl (.cons rfl (.cons rfl (.cons rfl (.cons rfl .nil))))))) ⟨_, rfl, hS8.pick [0, 1, 2] rfl, by first | (simp; omega) | (simp; done) | omega⟩
      rintro _ w9 ⟨vb, rfl, hS9, hvb⟩
      refine wc_seq ?_
      refine wc_region ?_
      refine wl_move rfl rfl ?_
      refine wl_makeIface nif_25 rfl rfl ?_
      refine wl_move rfl rfl ?_
      have hC11 := hS9.split [1] [false, true, false] rfl; dsimp only [selF, pickA, nthA, List.cons_append, List.nil_append] at hC11
      refine wl_call cal_11 rfl (getP_sp hC11 (hG.starL 1 rfl) hP.tb other) rfl ?_
      rintro e w11 ⟨_, rfl, a1, f1, rfl, hS11⟩; refine ⟨_, rfl, ?_⟩
      replace hS11 := hS11.join rfl; dsimp only [List.dropLast, List.cons_append, List.nil_append] at hS11; clear hC11
      clear hS9
      refine wl_move rfl rfl ?_
      refine wl_extract rfl rfl rfl ?_
      refine wl_extract rfl rfl rfl ?_
      have hone := procV_one (x := ((getW W other).getD zeroP)) (hS11.own_one 0 rfl) (hS11.own_one 1 rfl)
      refine wl_alloc hS11 zr_38 rfl rfl ?_
      intro b10 w12 hS12
      clear hS11
      refine wl_storeA hS12 rfl rfl sz_38 rfl (by first | rfl | (simp [allOne, Value.oneCell']; done) | assumption) (i := 0) rfl (by first | decide | exact Nat.le_of_ble_eq_true rfl | (simp; done) | omega) ?_
      intro w13 hS13; dsimp only [List.set] at hS13
      clear hS12
      rw [splice_all _ _ (by rfl)] at hS13
      refine wl_assign rfl rfl ?_
      refine wl_nil ?_
      refine qs_seq ?_
      refine wc_sub (L' := [(11, _), (10, _), (0, _), (1, _), (5, _), (6, _), (7, _), (8, _), (9, _)]) (.cons rfl (.cons rfl (.cons rfl (.cons rfl (.cons rfl (.cons rfl (.cons rfl (.cons rfl (.cons rfl .nil))))))))) ?_
      refine wc_seq ?_
      refine wc_region ?_
      refine wl_move rfl rfl ?_
      refine wl_loadA rfl ag_40 sz_40 (by first | exact hS13.blk 0 rfl | exact hS13.blk 4 rfl) (by first | decide | exact Nat.le_of_ble_eq_true rfl | (simp; done) | omega) rfl rfl ?_
      have hC14 := hS13.split [3] [false, false, false, true, false, false] rfl; dsimp only [selF, pickA, nthA, List.cons_append, List.nil_append] at hC14
      refine wl_call cal_12 rfl (do_sp hC14 (hG.starL 4 rfl) hP.tb (hP.keys (by omega)) o hwo (by omega) (Ent.starL hLA 4 rfl) (Ent.starL hLF 4 rfl)) rfl ?_
      rintro e w14 ⟨_, rfl, rfl, W2, hd, hS14⟩; refine ⟨_, rfl, ?_⟩
      replace hS14 := hS14.join rfl; dsimp only [List.dropLast, List.cons_append, List.nil_append] at hS14; clear hC14
      clear hS13
      have hP2 := hP.do (by omega) hd
      obtain ⟨hs1, hs2, hs3⟩ := do_self hd hwo (by omega)
      refine wl_nil ?_
      refine qs_seq ?_
      refine wc_sub (L' := [(11, _), (10, _), (0, _), (1, _), (5, _), (6, _), (7, _), (8, _), (9, _)]) (.cons rfl (.cons rfl (.cons rfl (.cons rfl (.cons rfl (.cons rfl (.cons rfl (.cons rfl (.cons rfl .nil))))))))) ?_
      refine wc_seq ?_
      refine wc_region ?_
      refine wl_move rfl rfl ?_
      refine wl_makeIface nif_25 rfl rfl ?_
      refine wl_fieldAddr rfl fo_40_1 rfl ?_
      refine wl_fieldAddr rfl fo_38_0 rfl ?_
      refine wl_load rfl ag_3 (by first | assumption | exact hS14.cell 1 rfl rfl | exact hS14.cell 4 rfl rfl) rfl ?_
      have hC15 := hS14.split [0] [true, false, false, false, false, false] rfl; dsimp only [selF, pickA, nthA, List.cons_append, List.nil_append] at hC15
      refine wl_call cal_11 rfl (getP_sp hC15 (hG.starL 4 rfl) hP2.tb (hq o.x 0)) rfl ?_
      rintro e w15 ⟨_, rfl, a2, f2, rfl, hS15⟩; refine ⟨_, rfl, ?_⟩
      replace hS15 := hS15.join rfl; dsimp only [List.dropLast, List.cons_append, List.nil_append] at hS15; clear hC15
      clear hS14
      refine wl_move rfl rfl ?_
      refine wl_extract rfl rfl rfl ?_
      refine wl_extract rfl rfl rfl ?_
      have hone := procV_one (x := ((getW W2 (hq o.x 0)).getD zeroP)) (hS15.own_one 0 rfl) (hS15.own_one 1 rfl)
      refine wl_alloc hS15 zr_38 rfl rfl ?_
      intro b12 w16 hS16
      clear hS15
      refine wl_storeA hS16 rfl rfl sz_38 rfl (by first | rfl | (simp [allOne, Value.oneCell']; done) | assumption) (i := 0) rfl (by first | decide | exact Nat.le_of_ble_eq_true rfl | (simp; done) | omega) ?_
      intro w17 hS17; dsimp only [List.set] at hS17
      clear hS16
      rw [splice_all _ _ (by rfl)] at hS17
      refine wl_assign rfl rfl ?_
      refine wl_nil ?_
      refine qs_seq ?_
      refine wc_sub (L' := [(13, _), (12, _), (11, _), (10, _), (0, _), (1, _), (5, _), (6, _), (7, _), (8, _), (9, _)]) (.cons rfl (.cons rfl (.cons rfl (.cons rfl (.cons rfl (.cons rfl (.cons rfl (.cons rfl (.cons rfl (.cons rfl (.cons rfl .nil))))))))))) ?_
      refine wc_seq ?_
      refine wc_region ?_
      refine wl_move rfl rfl ?_
      refine wl_makeIface nif_25 rfl rfl ?_
      refine wl_move rfl rfl ?_
      have hC18 := hS17.split [3] [false, false, false, true, false, false, false, false, false] rfl; dsimp only [selF, pickA, nthA, List.cons_append, List.nil_append] at hC18
      refine wl_call cal_11 rfl (getP_sp hC18 (hG.starL 7 rfl) hP2.tb other) rfl ?_
      rintro e w18 ⟨_, rfl, a3, f3, rfl, hS18⟩; refine ⟨_, rfl, ?_⟩
      replace hS18 := hS18.join rfl; dsimp only [List.dropLast, List.cons_append, List.nil_append] at hS18; clear hC18
      clear hS17
      refine wl_move rfl rfl ?_
      refine wl_extract rfl rfl rfl ?_
      refine wl_extract rfl rfl rfl ?_
      have hone := procV_one (x := ((getW W2 other).getD zeroP)) (hS18.own_one 0 rfl) (hS18.own_one 1 rfl)
      refine wl_alloc hS18 zr_38 rfl rfl ?_
      intro b14 w19 hS19
      clear hS18
      refine wl_storeA hS19 rfl rfl sz_38 rfl (by first | rfl | (simp [allOne, Value.oneCell']; done) | assumption) (i := 0) rfl (by first | decide | exact Nat.le_of_ble_eq_true rfl | (simp; done) | omega) ?_
      intro w20 hS20; dsimp only [List.set] at hS20
      clear hS19
      rw [splice_all _ _ (by rfl)] at hS20
      refine wl_assign rfl rfl ?_
      refine wl_nil ?_
      refine qs_seq ?_
      refine wc_sub (L' := [(15, _), (14, _), (13, _), (12, _), (11, _), (10, _), (0, _), (1, _), (5, _), (6, _), (7, _), (8, _), (9, _)]) (.cons rfl (.cons rfl (.cons rfl (.cons rfl (.cons rfl (.cons rfl (.cons rfl (.cons rfl (.cons rfl (.cons rfl (.cons rfl (.cons rfl (.cons rfl .nil))))))))))))) ?_
      refine wc_seq ?_
      refine wc_region ?_
      refine wl_fieldAddr rfl fo_40_0 rfl ?_
      refine wl_load rfl ag_3 (by first | assumption | exact hS20.cell 0 rfl rfl | exact hS20.cell 4 rfl rfl | exact hS20.cell 7 rfl rfl | exact hS20.cell 10 rfl rfl) rfl ?_
      have hC21 := hS20.split [] [false, false, false, false, false, false, false, false, false, false, false, false] rfl; dsimp only [selF, pickA, nthA, List.cons_append, List.nil_append] at hC21
      refine wl_call cal_13 rfl (pick_sp hC21 o.k 4 (by omega)) rfl ?_
      rintro e w21 ⟨_, rfl, rfl, hS21⟩; refine ⟨_, rfl, ?_⟩
      replace hS21 := hS21.join rfl; dsimp only [List.dropLast, List.cons_append, List.nil_append] at hS21; clear hC21
      clear hS20
      refine wl_assign rfl rfl ?_
      refine wl_nil ?_
      refine qs_seq ?_
      refine wc_sub (L' := [(16, _), (15, _), (14, _), (13, _), (12, _), (11, _), (10, _), (0, _), (1, _), (5, _), (6, _), (7, _), (8, _), (9, _)]) (.cons rfl (.cons rfl (.cons rfl (.cons rfl (.cons rfl (.cons rfl (.cons rfl (.cons rfl (.cons rfl (.cons rfl (.cons rfl (.cons rfl (.cons rfl (.cons rfl .nil)))))))))))))) ?_
      refine wc_mid (fun E0 W0 => E0 = [(0, .slice (some ⟨b, off, none⟩) l.length cap), (1, intV other), (5, .bool true), (6, ptrV p 0), (7, intV (i : Int)), (8, ptrV bo 0), (10, ptrV b10 0), (11, .bool (getW W other).isSome), (14, ptrV b14 0), (15, .bool (getW W2 other).isSome), (16, intV (o.k % 4))] ∧ Sat W0 [blkT b14 (procV ((getW W2 other).getD zeroP) a3 f3), rowT arC a3 ((getW W2 other).getD zeroP).ar, rowT stC f3 ((getW W2 other).getD zeroP).fds, blkT b10 (procV ((getW W other).getD zeroP) a1 f1), rowT arC a1 ((getW W other).getD zeroP).ar, rowT stC f1 ((getW W other).getD zeroP).fds, blkT bo (opV o), worldT p W2, F]) ?_ ?_
      · skip
        refine wc_seq ?_
        refine wc_region ?_
        refine wl_move rfl rfl ?_
        refine wl_lss rfl rfl rfl ?_
        refine wl_move rfl rfl ?_
        refine wl_splitD 82 rfl (fun h23 => ?_) (fun h23 => ?_)
        · skip
          have hs1 := hs1 (by assumption)
          refine wl_guard rfl rfl (decide_eq_true h23) ?_
          refine wl_move rfl rfl ?_
          refine wl_guard rfl rfl (decide_eq_true h23) ?_
          refine wl_move rfl rfl ?_
          refine wl_guard rfl rfl (decide_eq_true h23) ?_
          refine wl_neqB Tryz.underlying4 rfl rfl rfl ?_
          refine wl_guard rfl rfl (decide_eq_true h23) ?_
          refine wl_move rfl rfl ?_
          refine wl_split 86 rfl (fun h24 => ?_) (fun h24 => ?_)
          · skip
            rw [hs1] at h24; exact absurd h24 (by split <;> simp_all)
          · skip
            refine wl_guard rfl rfl h24 ?_
            refine wl_move rfl rfl ?_
            refine wl_guard rfl rfl h24 ?_
            refine wl_move rfl rfl ?_
            refine wl_split 88 rfl (fun h25 => ?_) (fun h25 => ?_)
            · skip
              have hv9 : 1 ≤ hq o.x 0 ∧ hq o.x 0 ≤ 999999 := Decidable.byContradiction fun q => by rw [hs1, if_neg q] at h25; cases h25
              have hg : getW W2 (hq o.x 0) = some o.x := by rw [hs1, if_pos hv9]
              rw [hg] at hS21
              dsimp only [Option.getD_some] at hS21
              refine wl_guard rfl rfl h25 ?_
              refine wl_loadA rfl ag_38 sz_38 (by first | exact hS21.blk 0 rfl | exact hS21.blk 4 rfl | exact hS21.blk 7 rfl | exact hS21.blk 10 rfl) (by first | decide | exact Nat.le_of_ble_eq_true rfl | (simp; done) | omega) rfl rfl ?_
              refine wl_guard rfl rfl h25 ?_
              refine wl_fieldAddr rfl fo_40_1 rfl ?_
              refine wl_guard rfl rfl h25 ?_
              refine wl_loadA rfl ag_38 sz_38 (by first | exact hS21.blk 0 rfl | exact hS21.blk 4 rfl | exact hS21.blk 7 rfl | exact hS21.blk 10 rfl) (by first | decide | exact Nat.le_of_ble_eq_true rfl | (simp; done) | omega) rfl rfl ?_
              refine wl_guard rfl rfl h25 ?_
              have hC26 := hS21.split [] [false, false, false, false, false, false, false, false, false, false, false, false] rfl; dsimp only [selF, pickA, nthA, List.cons_append, List.nil_append] at hC26
              refine wl_call cal_14 rfl (refSame_sp hC26 (Ent.starL (ent_row (by have := hwo.al; omega)) 5 rfl) (Ent.starL (ent_row (by have := hwo.fdl; omega)) 6 rfl) (Ent.starL hLA 11 rfl) (Ent.starL hLF 11 rfl)) rfl ?_
              rintro e w26 ⟨_, rfl, rfl, hS26⟩; refine ⟨_, rfl, ?_⟩
              replace hS26 := hS26.join rfl; dsimp only [List.dropLast, List.cons_append, List.nil_append] at hS26; clear hC26
              clear hS21
              refine wl_guard rfl rfl h25 ?_
              refine wl_not rfl rfl ?_
              refine wl_guard rfl rfl h24 ?_
              refine wl_pickT rfl h25 rfl rfl ?_
              refine wl_guard rfl rfl (decide_eq_true h23) ?_
              refine wl_pickF rfl h24 rfl rfl ?_
              refine wl_pickT rfl (decide_eq_true h23) rfl rfl ?_
              refine wl_move rfl rfl ?_
              refine wl_split 97 rfl (fun h27 => ?_) (fun h27 => ?_)
              · skip
                first | exact absurd rfl h27 | (simp at h27; done)
              · skip
                refine wl_guard rfl rfl h27 ?_
                refine wl_move rfl rfl ?_
                refine wl_guard rfl rfl h27 ?_
                refine wl_eql rfl rfl rfl ?_
                refine wl_guard rfl rfl h27 ?_
                refine wl_move rfl rfl ?_
                refine wl_splitD 100 rfl (fun h28 => ?_) (fun h28 => ?_)
                · skip
                  have hs2 := hs2 (by assumption)
                  refine wl_guard rfl rfl (decide_eq_true h28) ?_
                  refine wl_move rfl rfl ?_
                  refine wl_guard rfl rfl h27 ?_
                  refine wl_pickT rfl (decide_eq_true h28) rfl rfl ?_
                  refine wl_pickF rfl h27 rfl rfl ?_
                  refine wl_nil ?_
                  refine qs_seq ?_
                  refine wc_sub (L' := [(103, _), (16, _), (15, _), (14, _), (11, _), (10, _), (0, _), (1, _), (5, _), (6, _), (7, _), (8, _)]) (.cons rfl (.cons rfl (.cons rfl (.cons rfl (.cons rfl (.cons rfl (.cons rfl (.cons rfl (.cons rfl (.cons rfl (.cons rfl (.cons rfl .nil)))))))))))) ?_
                  refine wc_cond rfl (fun h29 => ?_) (fun h29 => ?_)
                  · skip
                    first | (simp at h29; done) | (rw [hs2] at h29; simp at h29; done)
                  · skip
                    refine wc_skip ?_
                    exact qs_mid (L' := [(0, _), (1, _), (5, _), (6, _), (7, _), (8, _), (10, _), (11, _), (14, _), (15, _), (16, _)]) (.cons rfl (.cons rfl (.cons rfl (.cons rfl (.cons rfl (.cons rfl (.cons rfl (.cons rfl (.cons rfl (.cons rfl (.cons rfl .nil))))))))))) ⟨rfl, hS26.pick [0, 1, 2, 7, 8, 9, 10, 3, 11] rfl⟩
                · skip
                  refine wl_unwanted rfl rfl (decide_eq_false h28) rfl ?_
                  refine wl_guard rfl rfl h27 ?_
                  refine wl_pickF rfl (decide_eq_false h28) rfl rfl ?_
                  refine wl_pickF rfl h27 rfl rfl ?_
                  refine wl_nil ?_
                  refine qs_seq ?_
                  refine wc_sub (L' := [(103, _), (16, _), (15, _), (14, _), (11, _), (10, _), (0, _), (1, _), (5, _), (6, _), (7, _), (8, _)]) (.cons rfl (.cons rfl (.cons rfl (.cons rfl (.cons rfl (.cons rfl (.cons rfl (.cons rfl (.cons rfl (.cons rfl (.cons rfl (.cons rfl .nil)))))))))))) ?_
                  refine wc_condF rfl ?_
                  refine wc_skip ?_
                  exact qs_mid (L' := [(0, _), (1, _), (5, _), (6, _), (7, _), (8, _), (10, _), (11, _), (14, _), (15, _), (16, _)]) (.cons rfl (.cons rfl (.cons rfl (.cons rfl (.cons rfl (.cons rfl (.cons rfl (.cons rfl (.cons rfl (.cons rfl (.cons rfl .nil))))))))))) ⟨rfl, hS26.pick [0, 1, 2, 7, 8, 9, 10, 3, 11] rfl⟩
            · skip
              refine wl_unwanted rfl rfl h25 rfl ?_
              refine wl_unwanted rfl rfl h25 rfl ?_
              refine wl_unwanted rfl rfl h25 rfl ?_
              refine wl_unwanted rfl rfl h25 rfl ?_
              refine wl_unwanted rfl rfl h25 rfl ?_
              refine wl_guard rfl rfl h24 ?_
              refine wl_pickF rfl h25 rfl rfl ?_
              refine wl_guard rfl rfl (decide_eq_true h23) ?_
              refine wl_pickF rfl h24 rfl rfl ?_
              refine wl_pickT rfl (decide_eq_true h23) rfl rfl ?_
              refine wl_move rfl rfl ?_
              refine wl_guard rfl rfl rfl ?_
              refine wl_move rfl rfl ?_
              refine wl_guard rfl rfl rfl ?_
              refine wl_eql rfl rfl rfl ?_
              refine wl_guard rfl rfl rfl ?_
              refine wl_move rfl rfl ?_
              refine wl_splitD 100 rfl (fun h30 => ?_) (fun h30 => ?_)
              · skip
                have hs2 := hs2 (by assumption)
                refine wl_guard rfl rfl (decide_eq_true h30) ?_
                refine wl_move rfl rfl ?_
                refine wl_guard rfl rfl rfl ?_
                refine wl_pickT rfl (decide_eq_true h30) rfl rfl ?_
                refine wl_pickF rfl rfl rfl rfl ?_
                refine wl_nil ?_
                refine qs_seq ?_
                refine wc_sub (L' := [(103, _), (16, _), (15, _), (14, _), (11, _), (10, _), (0, _), (1, _), (5, _), (6, _), (7, _), (8, _)]) (.cons rfl (.cons rfl (.cons rfl (.cons rfl (.cons rfl (.cons rfl (.cons rfl (.cons rfl (.cons rfl (.cons rfl (.cons rfl (.cons rfl .nil)))))))))))) ?_
                refine wc_cond rfl (fun h31 => ?_) (fun h31 => ?_)
                · skip
                  first | (simp at h31; done) | (rw [hs2] at h31; simp at h31; done)
                · skip
                  refine wc_skip ?_
                  exact qs_mid (L' := [(0, _), (1, _), (5, _), (6, _), (7, _), (8, _), (10, _), (11, _), (14, _), (15, _), (16, _)]) (.cons rfl (.cons rfl (.cons rfl (.cons rfl (.cons rfl (.cons rfl (.cons rfl (.cons rfl (.cons rfl (.cons rfl (.cons rfl .nil))))))))))) ⟨rfl, hS21.pick [0, 1, 2, 7, 8, 9, 10, 3, 11] rfl⟩
              · skip
                refine wl_unwanted rfl rfl (decide_eq_false h30) rfl ?_
                refine wl_guard rfl rfl rfl ?_
                refine wl_pickF rfl (decide_eq_false h30) rfl rfl ?_
                refine wl_pickF rfl rfl rfl rfl ?_
                refine wl_nil ?_
                refine qs_seq ?_
                refine wc_sub (L' := [(103, _), (16, _), (15, _), (14, _), (11, _), (10, _), (0, _), (1, _), (5, _), (6, _), (7, _), (8, _)]) (.cons rfl (.cons rfl (.cons rfl (.cons rfl (.cons rfl (.cons rfl (.cons rfl (.cons rfl (.cons rfl (.cons rfl (.cons rfl (.cons rfl .nil)))))))))))) ?_
                refine wc_condF rfl ?_
                refine wc_skip ?_
                exact qs_mid (L' := [(0, _), (1, _), (5, _), (6, _), (7, _), (8, _), (10, _), (11, _), (14, _), (15, _), (16, _)]) (.cons rfl (.cons rfl (.cons rfl (.cons rfl (.cons rfl (.cons rfl (.cons rfl (.cons rfl (.cons rfl (.cons rfl (.cons rfl .nil))))))))))) ⟨rfl, hS21.pick [0, 1, 2, 7, 8, 9, 10, 3, 11] rfl⟩
        · skip
          refine wl_unwanted rfl rfl (decide_eq_false h23) rfl ?_
          refine wl_unwanted rfl rfl (decide_eq_false h23) rfl ?_
          refine wl_unwanted rfl rfl (decide_eq_false h23) rfl ?_
          refine wl_unwanted rfl rfl (decide_eq_false h23) rfl ?_
          refine wl_unguarded rfl rfl rfl ?_
          refine wl_unguarded rfl rfl rfl ?_
          refine wl_unguarded rfl rfl rfl ?_
          refine wl_unguarded rfl rfl rfl ?_
          refine wl_unguarded rfl rfl rfl ?_
          refine wl_unguarded rfl rfl rfl ?_
          refine wl_unguarded rfl rfl rfl ?_
          refine wl_unguarded rfl rfl rfl ?_
          refine wl_unwanted rfl rfl (decide_eq_false h23) rfl ?_
          refine wl_pickF rfl (decide_eq_false h23) rfl rfl ?_
          refine wl_move rfl rfl ?_
          refine wl_guard rfl rfl rfl ?_
          refine wl_move rfl rfl ?_
          refine wl_guard rfl rfl rfl ?_
          refine wl_eql rfl rfl rfl ?_
          refine wl_guard rfl rfl rfl ?_
          refine wl_move rfl rfl ?_
          refine wl_splitD 100 rfl (fun h32 => ?_) (fun h32 => ?_)
          · skip
            have hs2 := hs2 (by assumption)
            refine wl_guard rfl rfl (decide_eq_true h32) ?_
            refine wl_move rfl rfl ?_
            refine wl_guard rfl rfl rfl ?_
            refine wl_pickT rfl (decide_eq_true h32) rfl rfl ?_
            refine wl_pickF rfl rfl rfl rfl ?_
            refine wl_nil ?_
            refine qs_seq ?_
            refine wc_sub (L' := [(103, _), (16, _), (15, _), (14, _), (11, _), (10, _), (0, _), (1, _), (5, _), (6, _), (7, _), (8, _)]) (.cons rfl (.cons rfl (.cons rfl (.cons rfl (.cons rfl (.cons rfl (.cons rfl (.cons rfl (.cons rfl (.cons rfl (.cons rfl (.cons rfl .nil)))))))))))) ?_
            refine wc_cond rfl (fun h33 => ?_) (fun h33 => ?_)
            · skip
              first | (simp at h33; done) | (rw [hs2] at h33; simp at h33; done)
            · skip
              refine wc_skip ?_
              exact qs_mid (L' := [(0, _), (1, _), (5, _), (6, _), (7, _), (8, _), (10, _), (11, _), (14, _), (15, _), (16, _)]) (.cons rfl (.cons rfl (.cons rfl (.cons rfl (.cons rfl (.cons rfl (.cons rfl (.cons rfl (.cons rfl (.cons rfl (.cons rfl .nil))))))))))) ⟨rfl, hS21.pick [0, 1, 2, 7, 8, 9, 10, 3, 11] rfl⟩
          · skip
            refine wl_unwanted rfl rfl (decide_eq_false h32) rfl ?_
            refine wl_guard rfl rfl rfl ?_
            refine wl_pickF rfl (decide_eq_false h32) rfl rfl ?_
            refine wl_pickF rfl rfl rfl rfl ?_
            refine wl_nil ?_
            refine qs_seq ?_
            refine wc_sub (L' := [(103, _), (16, _), (15, _), (14, _), (11, _), (10, _), (0, _), (1, _), (5, _), (6, _), (7, _), (8, _)]) (.cons rfl (.cons rfl (.cons rfl (.cons rfl (.cons rfl (.cons rfl (.cons rfl (.cons rfl (.cons rfl (.cons rfl (.cons rfl (.cons rfl .nil)))))))))))) ?_
            refine wc_condF rfl ?_
            refine wc_skip ?_
            exact qs_mid (L' := [(0, _), (1, _), (5, _), (6, _), (7, _), (8, _), (10, _), (11, _), (14, _), (15, _), (16, _)]) (.cons rfl (.cons rfl (.cons rfl (.cons rfl (.cons rfl (.cons rfl (.cons rfl (.cons rfl (.cons rfl (.cons rfl (.cons rfl .nil))))))))))) ⟨rfl, hS21.pick [0, 1, 2, 7, 8, 9, 10, 3, 11] rfl⟩
      rintro _ w22 ⟨rfl, hS22⟩
      refine wc_mid (fun E0 W0 => E0 = [(0, .slice (some ⟨b, off, none⟩) l.length cap), (1, intV other), (5, .bool true), (6, ptrV p 0), (7, intV (i : Int)), (15, .bool (getW W2 other).isSome)] ∧ Sat W0 [worldT p W2, F]) ?_ ?_
      · skip
        refine wc_seq ?_
        refine wc_region ?_
        refine wl_move rfl rfl ?_
        refine wl_lss rfl rfl rfl ?_
        refine wl_move rfl rfl ?_
        refine wl_splitD 106 rfl (fun h35 => ?_) (fun h35 => ?_)
        · skip
          refine wl_guard rfl rfl (decide_eq_true h35) ?_
          refine wl_move rfl rfl ?_
          refine wl_guard rfl rfl (decide_eq_true h35) ?_
          refine wl_fieldAddr rfl fo_40_1 rfl ?_
          refine wl_guard rfl rfl (decide_eq_true h35) ?_
          refine wl_fieldAddr rfl fo_38_0 rfl ?_
          refine wl_guard rfl rfl (decide_eq_true h35) ?_
          refine wl_load rfl ag_3 (by first | assumption | exact hS22.cell 0 rfl rfl | exact hS22.cell 3 rfl rfl | exact hS22.cell 6 rfl rfl) rfl ?_
          refine wl_guard rfl rfl (decide_eq_true h35) ?_
          refine wl_neq rfl rfl rfl ?_
          refine wl_pickT rfl (decide_eq_true h35) rfl rfl ?_
          refine wl_move rfl rfl ?_
          refine wl_splitD 113 rfl (fun h36 => ?_) (fun h36 => ?_)
          · skip
            have hoth := hs3 (by assumption) other (by assumption)
            refine wl_guard rfl rfl (decide_eq_true h36) ?_
            refine wl_move rfl rfl ?_
            refine wl_guard rfl rfl (decide_eq_true h36) ?_
            refine wl_move rfl rfl ?_
            refine wl_guard rfl rfl (decide_eq_true h36) ?_
            refine wl_neqB Tryz.underlying4 rfl rfl rfl ?_
            refine wl_guard rfl rfl (decide_eq_true h36) ?_
            refine wl_move rfl rfl ?_
            refine wl_split 117 rfl (fun h37 => ?_) (fun h37 => ?_)
            · skip
              rw [hoth] at h37; simp at h37
            · skip
              rw [hoth] at hS22
              have hgl := getD_len hP.tb other
              generalize (getW W other).getD zeroP = wx at hS22 hgl
              refine wl_guard rfl rfl h37 ?_
              refine wl_loadA rfl ag_38 sz_38 (by first | exact hS22.blk 0 rfl | exact hS22.blk 3 rfl | exact hS22.blk 6 rfl) (by first | decide | exact Nat.le_of_ble_eq_true rfl | (simp; done) | omega) rfl rfl ?_
              refine wl_guard rfl rfl h37 ?_
              refine wl_loadA rfl ag_38 sz_38 (by first | exact hS22.blk 0 rfl | exact hS22.blk 3 rfl | exact hS22.blk 6 rfl) (by first | decide | exact Nat.le_of_ble_eq_true rfl | (simp; done) | omega) rfl rfl ?_
              refine wl_guard rfl rfl h37 ?_
              have hC38 := hS22.split [] [false, false, false, false, false, false, false, false, false] rfl; dsimp only [selF, pickA, nthA, List.cons_append, List.nil_append] at hC38
              refine wl_call cal_14 rfl (refSame_sp hC38 (Ent.starL (ent_row (by have := hgl.1; omega)) 4 rfl) (Ent.starL (ent_row (by have := hgl.2; omega)) 5 rfl) (Ent.starL (ent_row (by have := hgl.1; omega)) 1 rfl) (Ent.starL (ent_row (by have := hgl.2; omega)) 2 rfl)) rfl ?_
              rintro e w38 ⟨_, rfl, rfl, hS38⟩; refine ⟨_, rfl, ?_⟩
              replace hS38 := hS38.join rfl; dsimp only [List.dropLast, List.cons_append, List.nil_append] at hS38; clear hC38
              clear hS22
              refine wl_guard rfl rfl h37 ?_
              refine wl_not rfl rfl ?_
              refine wl_guard rfl rfl (decide_eq_true h36) ?_
              refine wl_pickF rfl h37 rfl rfl ?_
              refine wl_pickT rfl (decide_eq_true h36) rfl rfl ?_
              refine wl_nil ?_
              refine qs_seq ?_
              refine wc_sub (L' := [(123, _), (0, _), (1, _), (5, _), (6, _), (7, _), (15, _)]) (.cons rfl (.cons rfl (.cons rfl (.cons rfl (.cons rfl (.cons rfl (.cons rfl .nil))))))) ?_
              refine wc_cond rfl (fun h39 => ?_) (fun h39 => ?_)
              · skip
                first | exact absurd rfl h39 | (simp at h39; done)
              · skip
                refine wc_skip ?_
                exact qs_mid (L' := [(0, _), (1, _), (5, _), (6, _), (7, _), (15, _)]) (.cons rfl (.cons rfl (.cons rfl (.cons rfl (.cons rfl (.cons rfl .nil)))))) ⟨rfl, hS38.pick [7, 8] rfl⟩
          · skip
            refine wl_unwanted rfl rfl (decide_eq_false h36) rfl ?_
            refine wl_unwanted rfl rfl (decide_eq_false h36) rfl ?_
            refine wl_unwanted rfl rfl (decide_eq_false h36) rfl ?_
            refine wl_unwanted rfl rfl (decide_eq_false h36) rfl ?_
            refine wl_unguarded rfl rfl rfl ?_
            refine wl_unguarded rfl rfl rfl ?_
            refine wl_unguarded rfl rfl rfl ?_
            refine wl_unguarded rfl rfl rfl ?_
            refine wl_unwanted rfl rfl (decide_eq_false h36) rfl ?_
            refine wl_pickF rfl (decide_eq_false h36) rfl rfl ?_
            refine wl_nil ?_
            refine qs_seq ?_
            refine wc_sub (L' := [(123, _), (0, _), (1, _), (5, _), (6, _), (7, _), (15, _)]) (.cons rfl (.cons rfl (.cons rfl (.cons rfl (.cons rfl (.cons rfl (.cons rfl .nil))))))) ?_
            refine wc_condF rfl ?_
            refine wc_skip ?_
            exact qs_mid (L' := [(0, _), (1, _), (5, _), (6, _), (7, _), (15, _)]) (.cons rfl (.cons rfl (.cons rfl (.cons rfl (.cons rfl (.cons rfl .nil)))))) ⟨rfl, hS22.pick [7, 8] rfl⟩
        · skip
          refine wl_unwanted rfl rfl (decide_eq_false h35) rfl ?_
          refine wl_unwanted rfl rfl (decide_eq_false h35) rfl ?_
          refine wl_unwanted rfl rfl (decide_eq_false h35) rfl ?_
          refine wl_unwanted rfl rfl (decide_eq_false h35) rfl ?_
          refine wl_unwanted rfl rfl (decide_eq_false h35) rfl ?_
          refine wl_pickF rfl (decide_eq_false h35) rfl rfl ?_
          refine wl_move rfl rfl ?_
          refine wl_unwanted rfl rfl rfl rfl ?_
          refine wl_unwanted rfl rfl rfl rfl ?_
          refine wl_unwanted rfl rfl rfl rfl ?_
          refine wl_unwanted rfl rfl rfl rfl ?_
          refine wl_unguarded rfl rfl rfl ?_
          refine wl_unguarded rfl rfl rfl ?_
          refine wl_unguarded rfl rfl rfl ?_
          refine wl_unguarded rfl rfl rfl ?_
          refine wl_unwanted rfl rfl rfl rfl ?_
          refine wl_pickF rfl rfl rfl rfl ?_
          refine wl_nil ?_
          refine qs_seq ?_
          refine wc_sub (L' := [(123, _), (0, _), (1, _), (5, _), (6, _), (7, _), (15, _)]) (.cons rfl (.cons rfl (.cons rfl (.cons rfl (.cons rfl (.cons rfl (.cons rfl .nil))))))) ?_
          refine wc_condF rfl ?_
          refine wc_skip ?_
          exact qs_mid (L' := [(0, _), (1, _), (5, _), (6, _), (7, _), (15, _)]) (.cons rfl (.cons rfl (.cons rfl (.cons rfl (.cons rfl (.cons rfl .nil)))))) ⟨rfl, hS22.pick [7, 8] rfl⟩
      rintro _ w34 ⟨rfl, hS34⟩
      refine wc_seq ?_
      refine wc_region ?_
      refine wl_move rfl rfl ?_
      refine wl_makeIface nif_25 rfl rfl ?_
      have hC40 := hS34.split [0] [true, false] rfl; dsimp only [selF, pickA, nthA, List.cons_append, List.nil_append] at hC40
      refine wl_call cal_15 rfl (all_sp hC40 (hG.starL 0 rfl) hP2.tb (hP2.keys (by omega))) rfl ?_
      rintro e w40 ⟨_, rfl, kl, hkl, hS40⟩; refine ⟨_, rfl, ?_⟩
      replace hS40 := hS40.join rfl; dsimp only [List.dropLast, List.cons_append, List.nil_append] at hS40; clear hC40
      clear hS34
      obtain ⟨au, cu, rfl, _⟩ := hS40.own_shape 0 rfl
      have hkk := keysOf_len2 hkl (hP2.keys (by omega))
      have hzl : (pidsF W2 (fun _ => true) kl).length ≤ 1000000 := by unfold pidsF; rw [List.length_map]; exact Nat.le_trans (recs_few W2 _ kl) hkk
      refine wl_assign rfl rfl ?_
      refine wl_nil ?_
      refine qs_seq ?_
      refine wc_seq ?_
      refine wc_seq ?_
      refine wc_region ?_
      refine wl_assign rfl rfl ?_
      refine wl_nil ?_
      refine qs_seq ?_
      refine wc_sub (L' := [(18, _), (17, _), (0, _), (1, _), (5, _), (6, _), (7, _), (15, _)]) (.cons rfl (.cons rfl (.cons rfl (.cons rfl (.cons rfl (.cons rfl (.cons rfl (.cons rfl .nil)))))))) ?_
      refine wc_block ?_
      refine wc_loop (fun K0 E0 W0 => ∃ (k : Nat), K0 = (pidsF W2 (fun _ => true) kl).length - k ∧ E0 = [(0, .slice (some ⟨b, off, none⟩) l.length cap), (1, intV other), (5, .bool true), (6, ptrV p 0), (7, intV (i : Int)), (15, .bool (getW W2 other).isSome), (17, .slice au (pidsF W2 (fun _ => true) kl).length cu), (18, intV (k : Int))] ∧ Sat W0 [rowT inC (.slice au (pidsF W2 (fun _ => true) kl).length cu) (pidsF W2 (fun _ => true) kl), worldT p W2, F] ∧ (k ≤ (pidsF W2 (fun _ => true) kl).length)) (L0 := [(0, _), (1, _), (5, _), (6, _), (7, _), (15, _), (17, _), (18, _)]) ((pidsF W2 (fun _ => true) kl).length - 0) (.cons rfl (.cons rfl (.cons rfl (.cons rfl (.cons rfl (.cons rfl (.cons rfl (.cons rfl .nil)))))))) ⟨0, rfl, rfl, hS40.pick [0, 1, 2] rfl, by omega⟩ ?_
      rintro _ _ w41 ⟨k, rfl, rfl, hS41, hk⟩
      refine wc_seq ?_
      refine wc_seq ?_
      refine wc_region ?_
      refine wl_move rfl rfl ?_
      refine wl_move rfl rfl ?_
      first | refine wl_lenL Tryz.underlying46 rfl rfl ?_ | refine wl_lenO 0 hS41 Tryz.underlying46 rfl rfl rfl ?_
      refine wl_lss rfl rfl rfl ?_
      refine wl_nil ?_
      refine qs_seq ?_
      refine wc_sub (L' := [(130, _), (0, _), (1, _), (5, _), (6, _), (7, _), (15, _), (17, _), (18, _)]) (.cons rfl (.cons rfl (.cons rfl (.cons rfl (.cons rfl (.cons rfl (.cons rfl (.cons rfl (.cons rfl .nil))))))))) ?_
      refine wc_condD rfl (fun h42 => ?_) (fun h42 => ?_)
      · skip
        obtain ⟨z, hz⟩ : ∃ z, (pidsF W2 (fun _ => true) kl)[k]? = some z := ⟨_, List.getElem?_eq_getElem (by omega)⟩
        obtain ⟨bu, cu2, hbu, _⟩ := hS41.own_at 0 rfl (by omega)
        injection hbu with hb1 _ hb3
        subst hb1 hb3
        obtain ⟨xz, hxz, _⟩ := (mem_pids hkl).1 (List.mem_of_getElem? hz)
        refine wc_skip ?_
        refine qs_seq ?_
        refine wc_seq ?_
        refine wc_block ?_
        refine wc_seq ?_
        refine wc_region ?_
        refine wl_move rfl rfl ?_
        refine wl_makeIface nif_25 rfl rfl ?_
        refine wl_move rfl rfl ?_
        refine wl_move rfl rfl ?_
        refine wl_indexAddr k rfl rfl (by first | rfl | omega) (by first | omega | exact (List.getElem?_eq_some_iff.1 hz).1) es_46 rfl ?_
        refine wl_rowLoad0 inC 0 k 0 hS41 rfl hz ag_3 rfl rfl rfl ?_
        have hC43 := hS41.split [1] [false, true, false] rfl; dsimp only [selF, pickA, nthA, List.cons_append, List.nil_append] at hC43
        refine wl_call cal_11 rfl (getP_sp hC43 (hG.starL 1 rfl) hP2.tb z) rfl ?_
        rintro e w43 ⟨_, rfl, av, fv, rfl, hS43⟩; refine ⟨_, rfl, ?_⟩
        replace hS43 := hS43.join rfl; dsimp only [List.dropLast, List.cons_append, List.nil_append] at hS43; clear hC43
        clear hS41
        refine wl_move rfl rfl ?_
        refine wl_extract rfl rfl rfl ?_
        refine wl_extract rfl rfl rfl ?_
        have hone := procV_one (x := ((getW W2 z).getD zeroP)) (hS43.own_one 0 rfl) (hS43.own_one 1 rfl)
        refine wl_alloc hS43 zr_38 rfl rfl ?_
        intro bz w44 hS44
        clear hS43
        refine wl_storeA hS44 rfl rfl sz_38 rfl (by first | rfl | (simp [allOne, Value.oneCell']; done) | assumption) (i := 0) rfl (by first | decide | exact Nat.le_of_ble_eq_true rfl | (simp; done) | omega) ?_
        intro w45 hS45; dsimp only [List.set] at hS45
        clear hS44
        rw [splice_all _ _ (by rfl)] at hS45
        refine wl_assign rfl rfl ?_
        refine wl_nil ?_
        refine qs_seq ?_
        refine wc_sub (L' := [(20, _), (0, _), (1, _), (5, _), (6, _), (7, _), (15, _), (17, _), (18, _)]) (.cons rfl (.cons rfl (.cons rfl (.cons rfl (.cons rfl (.cons rfl (.cons rfl (.cons rfl (.cons rfl .nil))))))))) ?_
        refine wc_seq ?_
        have hS46 := hS45.drew
        obtain ⟨zp, hzp⟩ : ∃ zp, (pidsF W2 (fun _ => true) kl)[k - 1]? = some zp := ⟨_, List.getElem?_eq_getElem (by omega)⟩
        refine wc_draw [0, 1, 2, 3, 4, 5, 6, 7, 8, 9, 10, 11, 12, 13, 14, 15, 16, 17, 18] [] mix (by kernel_rfl) ?_
        refine vc_p rfl rfl rfl (fun _ => (ev_move rfl)) ?_
        refine vc_p rfl rfl rfl (fun _ => (ev_not rfl)) ?_
        refine vc_p rfl rfl rfl (fun _ => (ev_move rfl)) ?_
        refine vc_split 145 rfl (fun h47 => ?_) (fun h47 => ?_)
        · skip
          rw [hxz] at h47; simp at h47
        · skip
          refine vc_p rfl rfl (guard_yes rfl rfl h47) (fun _ => (Ev.gd (ev_move rfl))) ?_
          refine vc_p rfl rfl (guard_yes rfl rfl h47) (fun _ => (Ev.gd (ev_gtr rfl rfl))) ?_
          refine vc_p rfl rfl (guard_yes rfl rfl h47) (fun _ => (Ev.gd (ev_move rfl))) ?_
          refine vc_splitD 148 rfl (fun h48 => ?_) (fun h48 => ?_)
          · skip
            refine vc_p rfl rfl (guard_yes rfl rfl (decide_eq_true h48)) (fun _ => (Ev.gd (ev_move rfl))) ?_
            refine vc_p rfl rfl (guard_yes rfl rfl (decide_eq_true h48)) (fun _ => (Ev.gd (ev_move rfl))) ?_
            refine vc_p rfl rfl (guard_yes rfl rfl (decide_eq_true h48)) (fun _ => (Ev.gd (ev_indexAddr k rfl rfl (by first | rfl | omega) (by first | omega | exact (List.getElem?_eq_some_iff.1 hz).1) es_46))) ?_
            refine vc_q rfl rfl (guard_yes rfl rfl (decide_eq_true h48)) (Ev.gd (ev_rowLoad0 inC 4 k 0 hS46 rfl hz ag_3 rfl rfl)) ?_
            refine vc_p rfl rfl (guard_yes rfl rfl (decide_eq_true h48)) (fun _ => (Ev.gd (ev_move rfl))) ?_
            refine vc_p rfl rfl (guard_yes rfl rfl (decide_eq_true h48)) (fun _ => (Ev.gd (ev_move rfl))) ?_
            refine vc_p rfl rfl (guard_yes rfl rfl (decide_eq_true h48)) (fun _ => (Ev.gd (ev_sub' rfl rfl (by first | omega | (simp; omega)) (by first | omega | (simp; omega))))) ?_
            refine vc_p rfl rfl (guard_yes rfl rfl (decide_eq_true h48)) (fun _ => (Ev.gd (ev_maxI rfl rfl))) ?_
            refine vc_p rfl rfl (guard_yes rfl rfl (decide_eq_true h48)) (fun _ => (Ev.gd (ev_indexAddr (k - 1) rfl rfl (by first | rfl | omega) (by first | omega | exact (List.getElem?_eq_some_iff.1 hzp).1) es_46))) ?_
            refine vc_q rfl rfl (guard_yes rfl rfl (decide_eq_true h48)) (Ev.gd (ev_rowLoad0 inC 4 (k - 1) 0 hS46 rfl hzp ag_3 rfl rfl)) ?_
            refine vc_p rfl rfl (guard_yes rfl rfl (decide_eq_true h48)) (fun _ => (Ev.gd (ev_leq rfl rfl))) ?_
            refine vc_p rfl rfl (guard_yes rfl rfl h47) (fun _ => (Ev.gd (ev_pickT rfl (decide_eq_true h48) rfl))) ?_
            refine vc_p rfl rfl rfl (fun _ => (ev_pickF rfl h47 rfl)) ?_
            refine VC.nil ?_
            refine qs_seq ?_
            refine wc_sub (L' := [(161, _), (0, _), (1, _), (5, _), (6, _), (7, _), (15, _), (17, _), (18, _)]) (.cons rfl (.cons rfl (.cons rfl (.cons rfl (.cons rfl (.cons rfl (.cons rfl (.cons rfl (.cons rfl .nil))))))))) ?_
            refine wc_condD rfl (fun h49 => ?_) (fun h49 => ?_)
            · skip
              have h9 := asc_step (pids_asc hkl) hzp hz (by omega); first | omega | (simp at h49; omega)
            · skip
              refine wc_skip ?_
              refine qs_block_normal ?_
              refine qs_seq ?_
              refine wc_region ?_
              refine wl_move rfl rfl ?_
              refine wl_add rfl rfl (by first | omega | (simp; omega)) (by first | omega | (simp; omega)) rfl ?_
              refine wl_assign rfl rfl ?_
              refine wl_nil ?_
              exact qs_round (L1 := [(0, _), (1, _), (5, _), (6, _), (7, _), (15, _), (17, _), (18, intV ((k + 1 : Nat) : Int))]) (.cons rfl (.cons rfl (.cons rfl (.cons rfl (.cons rfl (.cons rfl (.cons rfl (.cons rfl .nil)))))))) (k1 := (pidsF W2 (fun _ => true) kl).length - (k + 1)) (by omega) ⟨k + 1, rfl, rfl, hS46.pick [4, 3, 5] rfl, by omega⟩
          · skip
            refine vc_not rfl rfl (guard_no rfl rfl (decide_eq_false h48)) ?_
            refine vc_not rfl rfl (guard_no rfl rfl (decide_eq_false h48)) ?_
            refine vc_not rfl rfl (guard_no rfl rfl (decide_eq_false h48)) ?_
            refine vc_not rfl rfl (guard_no rfl rfl (decide_eq_false h48)) ?_
            refine vc_not rfl rfl (guard_no rfl rfl (decide_eq_false h48)) ?_
            refine vc_not rfl rfl (guard_no rfl rfl (decide_eq_false h48)) ?_
            refine vc_not rfl rfl (guard_no rfl rfl (decide_eq_false h48)) ?_
            refine vc_not rfl rfl (guard_no rfl rfl (decide_eq_false h48)) ?_
            refine vc_not rfl rfl (guard_no rfl rfl (decide_eq_false h48)) ?_
            refine vc_not rfl rfl (guard_no rfl rfl (decide_eq_false h48)) ?_
            refine vc_not rfl rfl (guard_no rfl rfl (decide_eq_false h48)) ?_
            refine vc_p rfl rfl (guard_yes rfl rfl h47) (fun _ => (Ev.gd (ev_pickF rfl (decide_eq_false h48) rfl))) ?_
            refine vc_p rfl rfl rfl (fun _ => (ev_pickF rfl h47 rfl)) ?_
            refine VC.nil ?_
            refine qs_seq ?_
            refine wc_sub (L' := [(161, _), (0, _), (1, _), (5, _), (6, _), (7, _), (15, _), (17, _), (18, _)]) (.cons rfl (.cons rfl (.cons rfl (.cons rfl (.cons rfl (.cons rfl (.cons rfl (.cons rfl (.cons rfl .nil))))))))) ?_
            refine wc_condF rfl ?_
            refine wc_skip ?_
            refine qs_block_normal ?_
            refine qs_seq ?_
            refine wc_region ?_
            refine wl_move rfl rfl ?_
            refine wl_add rfl rfl (by first | omega | (simp; omega)) (by first | omega | (simp; omega)) rfl ?_
            refine wl_assign rfl rfl ?_
            refine wl_nil ?_
            exact qs_round (L1 := [(0, _), (1, _), (5, _), (6, _), (7, _), (15, _), (17, _), (18, intV ((k + 1 : Nat) : Int))]) (.cons rfl (.cons rfl (.cons rfl (.cons rfl (.cons rfl (.cons rfl (.cons rfl (.cons rfl .nil)))))))) (k1 := (pidsF W2 (fun _ => true) kl).length - (k + 1)) (by omega) ⟨k + 1, rfl, rfl, hS46.pick [4, 3, 5] rfl, by omega⟩
      · skip
        refine wc_exit ?_
        refine qs_then_exit ?_
        refine qs_then_exit ?_
        refine qs_block_exit ?_
        refine qs_seq ?_
        refine wc_seq ?_
        refine wc_region ?_
        refine wl_assign rfl rfl ?_
        refine wl_nil ?_
        refine qs_seq ?_
        refine wc_seq ?_
        refine wc_seq ?_
        refine wc_region ?_
        refine wl_assign rfl rfl ?_
        refine wl_nil ?_
        refine qs_seq ?_
        refine wc_block ?_
        refine wc_loop (fun K0 E0 W0 => ∃ (k : Nat) (vin : Bool), K0 = (pidsF W2 (fun _ => true) kl).length - k ∧ E0 = [(0, .slice (some ⟨b, off, none⟩) l.length cap), (1, intV other), (5, .bool true), (6, ptrV p 0), (7, intV (i : Int)), (15, .bool (getW W2 other).isSome), (17, .slice au (pidsF W2 (fun _ => true) kl).length cu), (21, .bool vin), (22, intV (k : Int))] ∧ Sat W0 [rowT inC (.slice au (pidsF W2 (fun _ => true) kl).length cu) (pidsF W2 (fun _ => true) kl), worldT p W2, F] ∧ (k ≤ (pidsF W2 (fun _ => true) kl).length) ∧ (vin = ((pidsF W2 (fun _ => true) kl).take k).contains other)) (L0 := [(0, _), (1, _), (5, _), (6, _), (7, _), (15, _), (17, _), (21, _), (22, _)]) ((pidsF W2 (fun _ => true) kl).length - 0) (.cons rfl (.cons rfl (.cons rfl (.cons rfl (.cons rfl (.cons rfl (.cons rfl (.cons rfl (.cons rfl .nil))))))))) ⟨0, false, rfl, rfl, hS41.pick [0, 1, 2] rfl, by omega, by simp⟩ ?_
        rintro _ _ w50 ⟨k, vin, rfl, rfl, hS50, hk, hvin⟩
        refine wc_seq ?_
        refine wc_seq ?_
        refine wc_region ?_
        refine wl_move rfl rfl ?_
        refine wl_move rfl rfl ?_
        first | refine wl_lenL Tryz.underlying46 rfl rfl ?_ | refine wl_lenO 0 hS50 Tryz.underlying46 rfl rfl rfl ?_
        refine wl_lss rfl rfl rfl ?_
        refine wl_nil ?_
        refine qs_seq ?_
        refine wc_sub (L' := [(165, _), (0, _), (1, _), (5, _), (6, _), (7, _), (15, _), (17, _), (21, _), (22, _)]) (.cons rfl (.cons rfl (.cons rfl (.cons rfl (.cons rfl (.cons rfl (.cons rfl (.cons rfl (.cons rfl (.cons rfl .nil)))))))))) ?_
        refine wc_condD rfl (fun h51 => ?_) (fun h51 => ?_)
        · skip
          obtain ⟨z, hz⟩ : ∃ z, (pidsF W2 (fun _ => true) kl)[k]? = some z := ⟨_, List.getElem?_eq_getElem (by omega)⟩
          refine wc_skip ?_
          refine qs_seq ?_
          refine wc_seq ?_
          refine wc_block ?_
          refine wc_region ?_
          refine wl_move rfl rfl ?_
          refine wl_move rfl rfl ?_
          refine wl_split 169 rfl (fun h52 => ?_) (fun h52 => ?_)
          · skip
            refine wl_unwanted rfl rfl h52 rfl ?_
            refine wl_unwanted rfl rfl h52 rfl ?_
            refine wl_unwanted rfl rfl h52 rfl ?_
            refine wl_unwanted rfl rfl h52 rfl ?_
            refine wl_unwanted rfl rfl h52 rfl ?_
            refine wl_unwanted rfl rfl h52 rfl ?_
            refine wl_pickT rfl h52 rfl rfl ?_
            refine wl_assign rfl rfl ?_
            refine wl_nil ?_
            refine qs_block_normal ?_
            refine qs_seq ?_
            refine wc_sub (L' := [(21, _), (0, _), (1, _), (5, _), (6, _), (7, _), (15, _), (17, _), (22, _)]) (.cons rfl (.cons rfl (.cons rfl (.cons rfl (.cons rfl (.cons rfl (.cons rfl (.cons rfl (.cons rfl .nil))))))))) ?_
            refine wc_region ?_
            refine wl_move rfl rfl ?_
            refine wl_add rfl rfl (by first | omega | (simp; omega)) (by first | omega | (simp; omega)) rfl ?_
            refine wl_assign rfl rfl ?_
            refine wl_nil ?_
            have hn := take_contains (other := other) hz
            exact qs_round (L1 := [(0, _), (1, _), (5, _), (6, _), (7, _), (15, _), (17, _), (21, _), (22, intV ((k + 1 : Nat) : Int))]) (.cons rfl (.cons rfl (.cons rfl (.cons rfl (.cons rfl (.cons rfl (.cons rfl (.cons rfl (.cons rfl .nil))))))))) (k1 := (pidsF W2 (fun _ => true) kl).length - (k + 1)) (by omega) ⟨k + 1, _, rfl, rfl, hS50.pick [0, 1, 2] rfl, by omega, by rw [hn, ← hvin]; simp_all⟩
          · skip
            refine wl_guard rfl rfl h52 ?_
            refine wl_move rfl rfl ?_
            refine wl_guard rfl rfl h52 ?_
            refine wl_move rfl rfl ?_
            refine wl_guard rfl rfl h52 ?_
            refine wl_rowIdx inC 0 k hS50 rfl rfl rfl (by first | rfl | omega) hz es_46 rfl ?_
            intro bx53 capx53 hvx53
            refine wl_guard rfl rfl h52 ?_
            refine wl_rowLoad 0 k 0 hS50 rfl hvx53 rfl rfl hz ag_3 rfl rfl ?_
            refine wl_guard rfl rfl h52 ?_
            refine wl_move rfl rfl ?_
            refine wl_guard rfl rfl h52 ?_
            refine wl_eql rfl rfl rfl ?_
            refine wl_pickF rfl h52 rfl rfl ?_
            refine wl_assign rfl rfl ?_
            refine wl_nil ?_
            refine qs_block_normal ?_
            refine qs_seq ?_
            refine wc_sub (L' := [(21, _), (0, _), (1, _), (5, _), (6, _), (7, _), (15, _), (17, _), (22, _)]) (.cons rfl (.cons rfl (.cons rfl (.cons rfl (.cons rfl (.cons rfl (.cons rfl (.cons rfl (.cons rfl .nil))))))))) ?_
            refine wc_region ?_
            refine wl_move rfl rfl ?_
            refine wl_add rfl rfl (by first | omega | (simp; omega)) (by first | omega | (simp; omega)) rfl ?_
            refine wl_assign rfl rfl ?_
            refine wl_nil ?_
            have hn := take_contains (other := other) hz
            exact qs_round (L1 := [(0, _), (1, _), (5, _), (6, _), (7, _), (15, _), (17, _), (21, _), (22, intV ((k + 1 : Nat) : Int))]) (.cons rfl (.cons rfl (.cons rfl (.cons rfl (.cons rfl (.cons rfl (.cons rfl (.cons rfl (.cons rfl .nil))))))))) (k1 := (pidsF W2 (fun _ => true) kl).length - (k + 1)) (by omega) ⟨k + 1, _, rfl, rfl, hS50.pick [0, 1, 2] rfl, by omega, by rw [hn, ← hvin]; simp_all⟩
        · skip
          refine wc_exit ?_
          refine qs_then_exit ?_
          refine qs_then_exit ?_
          refine qs_block_exit ?_
          refine qs_seq ?_
          refine wc_seq ?_
          refine wc_region ?_
          refine wl_move rfl rfl ?_
          refine wl_move rfl rfl ?_
          refine wl_neqB Tryz.underlying4 rfl rfl rfl ?_
          refine wl_nil ?_
          refine qs_seq ?_
          refine wc_sub (L' := [(179, _), (0, _), (1, _), (5, _), (6, _), (7, _)]) (.cons rfl (.cons rfl (.cons rfl (.cons rfl (.cons rfl (.cons rfl .nil)))))) ?_
          refine wc_cond rfl (fun h54 => ?_) (fun h54 => ?_)
          · skip
            rw [hvin, List.take_of_length_le (by omega), in_pids hkl] at h54; simp at h54
          · skip
            refine wc_skip ?_
            refine qs_block_normal ?_
            refine qs_seq ?_
            refine wc_region ?_
            refine wl_move rfl rfl ?_
            refine wl_add rfl rfl (by first | omega | (simp; omega)) (by first | omega | (simp; omega)) rfl ?_
            refine wl_assign rfl rfl ?_
            refine wl_nil ?_
            exact qs_round (L1 := [(0, _), (1, _), (5, _), (6, _), (7, intV ((i + 1 : Nat) : Int))]) (.cons rfl (.cons rfl (.cons rfl (.cons rfl (.cons rfl .nil))))) (k1 := l.length - (i + 1)) (by omega) ⟨i + 1, _, rfl, rfl, hS50.pick [1, 2] rfl, by omega, hP2⟩
    · skip
      refine wc_exit ?_
      refine qs_then_exit ?_
      refine qs_then_exit ?_
      refine qs_block_exit ?_
      refine qs_seq ?_
      refine wc_seq ?_
      refine wc_region ?_
      refine wl_move rfl rfl ?_
      refine wl_assign rfl rfl ?_
      refine wl_nil ?_
      refine qs_seq ?_
      refine wc_sub (L' := [(4, _)]) (.cons rfl .nil) ?_
      refine wc_ret ?_
      refine fin1 (.inr rfl) rfl rfl ?_
      exact ⟨_, rfl, by first | rfl | (simp; done), hS5.pick [1] rfl⟩

end Go.Proofs.YtcbdclhoekokpaaGreatDoor
