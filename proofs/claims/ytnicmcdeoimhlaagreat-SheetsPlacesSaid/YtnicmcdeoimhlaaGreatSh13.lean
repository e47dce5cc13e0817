/- sheets: Set -/
import Derived.Test.YtnicmcdeoimhlaaGreatSh12
import Derived.Test.YtnicmcdeoimhlaaGreatWbl
import Derived.Test.YtnicmcdeoimhlaaGreatDl
namespace Go.Proofs.YtnicmcdeoimhlaaGreat
open Go.RowKit M
set_option linter.unusedVariables false
theorem ShF.trans {S S' S'' : SS} (h : ShF S S') (h' : ShF S' S'') : ShF S S'' := by
  refine ⟨?_, h'.bud.trans h.bud, h'.slo.trans h.slo, h'.frn.trans h.frn⟩
  obtain ⟨L, h1, h2⟩ := h.tk
  obtain ⟨L', h3, h4⟩ := h'.tk
  refine ⟨L ++ L', by rw [h3, h1, List.append_assoc], fun j x hx hp => ?_⟩
  rcases h2 j x hx hp with h | ⟨y, hy, hp', ha⟩
  · exact .inl (List.mem_append_left _ h)
  · rcases h4 j y hy hp' with h | ⟨z, hz, hp'', ha'⟩
    · exact .inl (List.mem_append_right _ (by rw [← ha]; exact h))
    · exact .inr ⟨z, hz, hp'', ha'.trans ha⟩
noncomputable def setP (S : SS) (id : Int) (y : ShE) (pg : Bs) : SS := { S with all := up S.all id (some { y with pg := pg }), fr := S.fr.set y.at_.toNat (some pg) }
theorem aG_page {A : Int → Option ShE} {id : Int} {y : ShE} {pg : Bs} (h : A id = some y) (hp : y.place = 1) : aG (up A id (some { y with pg := pg })) = aG A := by
  funext j
  unfold aG
  by_cases q : j = id
  · subst q; rw [up_self, h]; show some _ = some _; unfold shV fmE; simp [hp]
  · rw [up_ne q]
/-- a byte was set -/
structure SetS (T : Nat) (S S' : SS) (id : Int) (x : ShE) (pg : Bs) : Prop where
  inv : ShI no0 (T + 1) S'
  f : ShF S S'
  is : vw S' = up (vw S) id (some (x.refs, pg))
theorem set_of {T : Nat} {S S1 : SS} {id : Int} {x y : ShE} {pg : Bs} (h : ShI no0 (T + 1) S1) (hf : ShF S S1) (hv : vw S1 = vw S) (hy : S1.all id = some y) (hp : y.place = 1) (hr : y.refs = x.refs) (hpg : pg.length = 64) : SetS T S (setP S1 id y pg) id x pg := by
  refine ⟨h.page (fun q => q) hy hp hpg, hf.trans ⟨⟨[], by simp [setP], fun j z hz hp1 => .inr ?_⟩, rfl, rfl, by show (S1.fr.set _ _).length = _; rw [List.length_set]⟩, ?_⟩
  · by_cases q : j = id
    · subst q; rw [hy] at hz; cases hz; exact ⟨_, up_self, hp1, rfl⟩
    · exact ⟨z, by show up S1.all id _ j = _; rw [up_ne q]; exact hz, hp1, rfl⟩
  · rw [← hr, ← hv]; exact vw_up rfl
set_option maxRecDepth 100000 in
set_option maxHeartbeats 3200000 in
theorem shset_sp {w : World} {p : Nat} {S : SS} {F : Th} (hS : Sat w [shT p S, F]) {N : Nat} (hI : ShI no0 N S) (hN : N ≤ 800000) (id at_ : Int) (b : UInt8) :
    Calls Tryz.prog 33 #[ptrV p 0, intV id, intV at_, byteV b] w (Ret fun v w' => (∃ e, v = intV e ∧ e ≠ 0 ∧ Sat w' [shT p S, F]) ∨ (∃ x S', S.all id = some x ∧ v = intV 0 ∧ (0 ≤ at_ ∧ at_ < 64) ∧ SetS N S S' id x (x.pg.set at_.toNat b) ∧ Sat w' [shT p S', F])) := by
 obtain ⟨ba, bi, fp, sp, kp, ac, cc, at2, ct, hS⟩ := shT_open hS
 cases hid : S.all id with
 | none =>
  refine calls_enter Tryz.func33 rfl Tryz.ntmps33 rfl ?_
  refine wc_seq (wc_region (wl_assign rfl rfl (wl_nil (qs_seq (wc_seq (wc_region (wl_move rfl rfl (wl_nilCheck rfl rfl ?_))))))))
  refine wl_fieldAddr rfl fo_65_0 rfl ?_
  refine wl_load rfl ag_56 (by first | assumption | exact hS.cell 0 rfl rfl) rfl ?_
  refine wl_move rfl rfl ?_
  refine wl_lookupOk (k := id) 1 hS keysInt Tryz.underlying56 rfl rfl rfl zr_76 (u := (.agg #[intV 0, intV 0, intV 0, strV []])) (g := false) (aG_none hid) (aG_none2 hid) rfl ?_
  refine wl_move rfl rfl (wl_extract rfl rfl rfl (wl_extract rfl rfl rfl ?_))
  refine wl_alloc hS zr_76 rfl rfl ?_
  intro b1 w1 hS1
  first | (refine wl_storeA hS1 rfl rfl sz_76 rfl (by first | rfl | (simp [allOne, Value.oneCell']; done) | assumption | exact hone) (i := 0) rfl (by first | decide | exact Nat.le_of_ble_eq_true rfl | (simp; done) | omega) ?_) | (refine wl_storeA hS1 rfl rfl sz_76 rfl (by first | rfl | (simp [allOne, Value.oneCell']; done) | assumption | exact hone) (i := 1) rfl (by first | decide | exact Nat.le_of_ble_eq_true rfl | (simp; done) | omega) ?_)
  intro w2 hS3; dsimp only [List.set] at hS3
  clear hS1
  refine wl_assign rfl rfl (wl_nil (qs_seq ?_))
  refine wc_sub (L' := [(10, _), (9, _), (8, _), (0, _), (1, _), (2, _), (3, _)]) (.cons rfl (.cons rfl (.cons rfl (.cons rfl (.cons rfl (.cons rfl (.cons rfl .nil))))))) ?_
  refine wc_seq (wc_block (wc_seq (wc_region (wl_move rfl rfl ?_))))
  refine wl_not rfl rfl ?_
  refine wl_move rfl rfl ?_
  refine wl_split 25 rfl (fun h4 => ?_) (fun h4 => ?_)
  ·refine wl_guard rfl rfl h4 ?_
   refine wl_move rfl rfl ?_
   refine wl_guard rfl rfl h4 ?_
   refine wl_neq rfl rfl rfl ?_
   refine wl_pickT rfl h4 rfl rfl ?_
   refine wl_assign rfl rfl (wl_nil (qs_seq ?_))
   refine wc_sub (L' := [(22, _), (9, _), (8, _), (0, _), (1, _), (2, _), (3, _)]) (.cons rfl (.cons rfl (.cons rfl (.cons rfl (.cons rfl (.cons rfl (.cons rfl .nil))))))) ?_
   refine wc_condD rfl (fun h5 => ?_) (fun h5 => ?_)
   ·refine wc_seq (wc_region (wl_assign rfl rfl (wl_nil (qs_seq (wc_ret (qs_block_ret (qs_then_ret ?_)))))))
    refine fin1 (.inr rfl) rfl rfl ?_
    exact ⟨_, rfl, .inl ⟨_, rfl, by first | decide | omega, shT_shut (hS3.pick [1, 2, 3, 4, 5, 6, 7, 8, 9] rfl)⟩⟩
   refine wc_seq (wc_region (wl_move rfl rfl ?_))
   refine wl_eql rfl rfl rfl ?_
   refine wl_move rfl rfl ?_
   refine wl_splitD 32 rfl (fun h6 => ?_) (fun h6 => ?_)
   ·refine wl_unwanted rfl rfl (decide_eq_true h6) rfl ?_
    refine wl_unwanted rfl rfl (decide_eq_true h6) rfl ?_
    refine wl_unwanted rfl rfl (decide_eq_true h6) rfl ?_
    refine wl_pickT rfl (decide_eq_true h6) rfl rfl ?_
    refine wl_assign rfl rfl (wl_nil (qs_seq ?_))
    refine wc_sub (L' := [(29, _), (8, _), (0, _), (1, _), (2, _), (3, _)]) (.cons rfl (.cons rfl (.cons rfl (.cons rfl (.cons rfl (.cons rfl .nil)))))) ?_
    refine wc_condT rfl ?_
    refine wc_seq (wc_region (wl_assign rfl rfl (wl_nil (qs_seq (wc_ret (qs_block_ret (qs_then_ret ?_)))))))
    refine fin1 (.inr rfl) rfl rfl ?_
    exact ⟨_, rfl, .inl ⟨_, rfl, by first | decide | omega, shT_shut (hS3.pick [1, 2, 3, 4, 5, 6, 7, 8, 9] rfl)⟩⟩
   exact absurd h6 (by omega)
  exact absurd h4 (by simp)
 | some x =>
  obtain ⟨hid1, _, hr1, hr2, _, hplc⟩ := hI.ent hid
  refine calls_enter Tryz.func33 rfl Tryz.ntmps33 rfl ?_
  refine wc_seq (wc_region (wl_assign rfl rfl (wl_nil (qs_seq (wc_seq (wc_region (wl_move rfl rfl (wl_nilCheck rfl rfl ?_))))))))
  refine wl_fieldAddr rfl fo_65_0 rfl ?_
  refine wl_load rfl ag_56 (by first | assumption | exact hS.cell 0 rfl rfl) rfl ?_
  refine wl_move rfl rfl ?_
  refine wl_lookupOk (k := id) 1 hS keysInt Tryz.underlying56 rfl rfl rfl zr_76 (u := (.agg #[intV x.refs, intV x.place, intV x.at_, strV (fmE x)])) (g := true) (aG_some hid) (aG_some2 hid) rfl ?_
  refine wl_move rfl rfl (wl_extract rfl rfl rfl (wl_extract rfl rfl rfl ?_))
  refine wl_alloc hS zr_76 rfl rfl ?_
  intro b1 w1 hS1
  first | (refine wl_storeA hS1 rfl rfl sz_76 rfl (by first | rfl | (simp [allOne, Value.oneCell']; done) | assumption | exact hone) (i := 0) rfl (by first | decide | exact Nat.le_of_ble_eq_true rfl | (simp; done) | omega) ?_) | (refine wl_storeA hS1 rfl rfl sz_76 rfl (by first | rfl | (simp [allOne, Value.oneCell']; done) | assumption | exact hone) (i := 1) rfl (by first | decide | exact Nat.le_of_ble_eq_true rfl | (simp; done) | omega) ?_)
  intro w2 hS3; dsimp only [List.set] at hS3
  clear hS1
  refine wl_assign rfl rfl (wl_nil (qs_seq ?_))
  refine wc_sub (L' := [(10, _), (9, _), (8, _), (0, _), (1, _), (2, _), (3, _)]) (.cons rfl (.cons rfl (.cons rfl (.cons rfl (.cons rfl (.cons rfl (.cons rfl .nil))))))) ?_
  refine wc_seq (wc_block (wc_seq (wc_region (wl_move rfl rfl ?_))))
  refine wl_not rfl rfl ?_
  refine wl_move rfl rfl ?_
  refine wl_split 25 rfl (fun h4 => ?_) (fun h4 => ?_)
  ·exact absurd h4 (by simp)
  refine wl_unwanted rfl rfl h4 rfl ?_
  refine wl_unwanted rfl rfl h4 rfl ?_
  refine wl_pickF rfl h4 rfl rfl ?_
  refine wl_assign rfl rfl (wl_nil (qs_seq ?_))
  refine wc_sub (L' := [(22, _), (9, _), (8, _), (0, _), (1, _), (2, _), (3, _)]) (.cons rfl (.cons rfl (.cons rfl (.cons rfl (.cons rfl (.cons rfl (.cons rfl .nil))))))) ?_
  refine wc_condF rfl ?_
  refine wc_seq (wc_region (wl_move rfl rfl ?_))
  refine wl_eql rfl rfl rfl ?_
  refine wl_move rfl rfl ?_
  refine wl_splitD 32 rfl (fun h5 => ?_) (fun h5 => ?_)
  ·exact absurd h5 (by omega)
  refine wl_guard rfl rfl (decide_eq_false h5) ?_
  refine wl_fieldAddr rfl fo_76_0 rfl ?_
  refine wl_guard rfl rfl (decide_eq_false h5) ?_
  refine wl_load rfl ag_3 (by first | assumption | exact hS3.cell 0 rfl rfl | exact hS3.cell 1 rfl rfl) rfl ?_
  refine wl_guard rfl rfl (decide_eq_false h5) ?_
  refine wl_gtr rfl rfl rfl ?_
  refine wl_pickF rfl (decide_eq_false h5) rfl rfl ?_
  refine wl_assign rfl rfl (wl_nil (qs_seq ?_))
  refine wc_sub (L' := [(29, _), (8, _), (0, _), (1, _), (2, _), (3, _)]) (.cons rfl (.cons rfl (.cons rfl (.cons rfl (.cons rfl (.cons rfl .nil)))))) ?_
  refine wc_condD rfl (fun h6 => ?_) (fun h6 => ?_)
  ·refine wc_seq (wc_region (wl_assign rfl rfl (wl_nil (qs_seq (wc_ret (qs_block_ret (qs_then_ret ?_)))))))
   refine fin1 (.inr rfl) rfl rfl ?_
   exact ⟨_, rfl, .inl ⟨_, rfl, by first | decide | omega, shT_shut (hS3.pick [1, 2, 3, 4, 5, 6, 7, 8, 9] rfl)⟩⟩
  refine wc_seq (wc_region (wl_move rfl rfl ?_))
  refine wl_lss rfl rfl rfl ?_
  refine wl_move rfl rfl ?_
  refine wl_splitD 40 rfl (fun h7 => ?_) (fun h7 => ?_)
  ·refine wl_unwanted rfl rfl (decide_eq_true h7) rfl ?_
   refine wl_unwanted rfl rfl (decide_eq_true h7) rfl ?_
   refine wl_pickT rfl (decide_eq_true h7) rfl rfl ?_
   refine wl_assign rfl rfl (wl_nil (qs_seq ?_))
   refine wc_sub (L' := [(37, _), (8, _), (0, _), (1, _), (2, _), (3, _)]) (.cons rfl (.cons rfl (.cons rfl (.cons rfl (.cons rfl (.cons rfl .nil)))))) ?_
   refine wc_condT rfl ?_
   refine wc_seq (wc_region (wl_assign rfl rfl (wl_nil (qs_seq (wc_ret (qs_block_ret (qs_then_ret ?_)))))))
   refine fin1 (.inr rfl) rfl rfl ?_
   exact ⟨_, rfl, .inl ⟨_, rfl, by first | decide | omega, shT_shut (hS3.pick [1, 2, 3, 4, 5, 6, 7, 8, 9] rfl)⟩⟩
  refine wl_guard rfl rfl (decide_eq_false h7) ?_
  refine wl_move rfl rfl ?_
  refine wl_guard rfl rfl (decide_eq_false h7) ?_
  refine wl_geq rfl rfl rfl ?_
  refine wl_pickF rfl (decide_eq_false h7) rfl rfl ?_
  refine wl_assign rfl rfl (wl_nil (qs_seq ?_))
  refine wc_sub (L' := [(37, _), (8, _), (0, _), (1, _), (2, _), (3, _)]) (.cons rfl (.cons rfl (.cons rfl (.cons rfl (.cons rfl (.cons rfl .nil)))))) ?_
  refine wc_condD rfl (fun h8 => ?_) (fun h8 => ?_)
  ·refine wc_seq (wc_region (wl_assign rfl rfl (wl_nil (qs_seq (wc_ret (qs_block_ret (qs_then_ret ?_)))))))
   refine fin1 (.inr rfl) rfl rfl ?_
   exact ⟨_, rfl, .inl ⟨_, rfl, by first | decide | omega, shT_shut (hS3.pick [1, 2, 3, 4, 5, 6, 7, 8, 9] rfl)⟩⟩
  refine wc_skip (qs_block_normal (qs_seq (wc_seq (wc_region (wl_move rfl rfl (wl_move rfl rfl ?_))))))
  have hS9 := shT_shut (hS3.pick [1, 2, 3, 4, 5, 6, 7, 8, 9] rfl)
  have hbr := fun {w F} (hC : Sat w [shT p S, F]) => shbring_sp hC hI hN id
  simp only [hid] at hbr
  have hC10 := hS9.split [0] [true, false] rfl; dsimp only [selF, pickA, nthA, List.cons_append, List.nil_append] at hC10
  refine wl_call cal_24 rfl (hbr hC10) rfl ?_
  rintro e w10 ⟨_, rfl, (⟨hp1, rfl, hS10⟩ | ⟨k, S2, hp1, rfl, hB, hS10⟩ | ⟨hp2, rfl, hall, hfull, hS10⟩)⟩
  ·refine ⟨_, rfl, ?_⟩
   replace hS10 := hS10.join rfl; dsimp only [List.dropLast, List.cons_append, List.nil_append] at hS10; clear hC10
   clear hS9
   refine wl_move rfl rfl (wl_extract rfl rfl rfl (wl_extract rfl rfl rfl (wl_assign rfl rfl (wl_assign rfl rfl (wl_nil (qs_seq ?_))))))
   refine wc_sub (L' := [(12, _), (11, _), (8, _), (0, _), (2, _), (3, _)]) (.cons rfl (.cons rfl (.cons rfl (.cons rfl (.cons rfl (.cons rfl .nil)))))) ?_
   refine wc_seq (wc_seq (wc_region (wl_move rfl rfl ?_)))
   refine wl_neq rfl rfl rfl ?_
   refine wl_nil (qs_seq ?_)
   refine wc_condD rfl (fun h11 => ?_) (fun h11 => ?_)
   ·exact absurd rfl h11
   refine wc_skip (qs_seq (wc_seq ?_))
   obtain ⟨ba, bi, fp, sp, kp, ac, cc, at2, ct, hSo12⟩ := shT_open (hS10.pick [0, 1] rfl)
   refine wc_region (wl_move rfl rfl (wl_nilCheck rfl rfl ?_))
   refine wl_fieldAddr rfl fo_65_3 rfl ?_
   refine wl_load rfl ag_58 (by first | assumption | exact hSo12.cell 0 rfl rfl) rfl ?_
   refine wl_move rfl rfl (wl_move rfl rfl (wl_move rfl rfl ?_))
   have hfr := hI.frc (fun q => q) hid hp1
   have hC13 := hSo12.split [4] [false, false, false, false, true, false, false, false, false] rfl; dsimp only [selF, pickA, nthA, List.cons_append, List.nil_append] at hC13
   refine wl_call cal_67 rfl (frset_sp hC13 x.at_ at_ b) rfl ?_
   rintro e w13 ⟨_, rfl, (⟨hbad, hS13⟩ | ⟨rfl, cb, hcb, hrng, hS13⟩)⟩
   ·exfalso; rw [hfr] at hbad; simp at hbad; omega
   refine ⟨_, rfl, ?_⟩
   replace hS13 := hS13.join rfl; dsimp only [List.dropLast, List.cons_append, List.nil_append] at hS13; clear hC13
   clear hSo12
   refine wl_assign rfl rfl (wl_nil (qs_seq ?_))
   refine wc_sub (L' := [(8, _)]) (.cons rfl .nil) ?_
   refine wc_ret ?_
   refine fin1 (.inr rfl) rfl rfl ?_
   obtain rfl : x.pg = cb := by rw [hfr] at hcb; cases hcb; rfl
   have hz := hS13.pick [1, 2, 3, 4, 0, 5, 6, 7, 8] rfl
   rw [← aG_page (pg := x.pg.set at_.toNat b) hid hp1] at hz
   exact ⟨_, rfl, .inr ⟨x, _, rfl, rfl, hrng, set_of (x := x) (pg := x.pg.set at_.toNat b) (hI.mono (Nat.le_add_right N 1)) (ShF.refl S) rfl hid hp1 rfl (by rw [List.length_set]; exact (hI.ent hid).2.2.2.2.1), shT_shut (S := setP S id x (x.pg.set at_.toNat b)) hz⟩⟩
  ·refine ⟨_, rfl, ?_⟩
   replace hS10 := hS10.join rfl; dsimp only [List.dropLast, List.cons_append, List.nil_append] at hS10; clear hC10
   clear hS9
   refine wl_move rfl rfl (wl_extract rfl rfl rfl (wl_extract rfl rfl rfl (wl_assign rfl rfl (wl_assign rfl rfl (wl_nil (qs_seq ?_))))))
   refine wc_sub (L' := [(12, _), (11, _), (8, _), (0, _), (2, _), (3, _)]) (.cons rfl (.cons rfl (.cons rfl (.cons rfl (.cons rfl (.cons rfl .nil)))))) ?_
   refine wc_seq (wc_seq (wc_region (wl_move rfl rfl ?_)))
   refine wl_neq rfl rfl rfl ?_
   refine wl_nil (qs_seq ?_)
   refine wc_condD rfl (fun h14 => ?_) (fun h14 => ?_)
   ·exact absurd rfl h14
   refine wc_skip (qs_seq (wc_seq ?_))
   obtain ⟨ba, bi, fp, sp, kp, ac, cc, at2, ct, hSo15⟩ := shT_open (hS10.pick [0, 1] rfl)
   refine wc_region (wl_move rfl rfl (wl_nilCheck rfl rfl ?_))
   refine wl_fieldAddr rfl fo_65_3 rfl ?_
   refine wl_load rfl ag_58 (by first | assumption | exact hSo15.cell 0 rfl rfl) rfl ?_
   refine wl_move rfl rfl (wl_move rfl rfl (wl_move rfl rfl ?_))
   have hfr := hB.inv.frc (fun q => q) hB.is rfl
   dsimp only at hfr
   have hC16 := hSo15.split [4] [false, false, false, false, true, false, false, false, false] rfl; dsimp only [selF, pickA, nthA, List.cons_append, List.nil_append] at hC16
   refine wl_call cal_67 rfl (frset_sp hC16 (k : Int) at_ b) rfl ?_
   rintro e w16 ⟨_, rfl, (⟨hbad, hS16⟩ | ⟨rfl, cb, hcb, hrng, hS16⟩)⟩
   ·exfalso; rw [hfr] at hbad; simp at hbad; omega
   refine ⟨_, rfl, ?_⟩
   replace hS16 := hS16.join rfl; dsimp only [List.dropLast, List.cons_append, List.nil_append] at hS16; clear hC16
   clear hSo15
   refine wl_assign rfl rfl (wl_nil (qs_seq ?_))
   refine wc_sub (L' := [(8, _)]) (.cons rfl .nil) ?_
   refine wc_ret ?_
   refine fin1 (.inr rfl) rfl rfl ?_
   obtain rfl : x.pg = cb := by rw [hfr] at hcb; cases hcb; rfl
   have hz := hS16.pick [1, 2, 3, 4, 0, 5, 6, 7, 8] rfl
   rw [← aG_page (pg := x.pg.set at_.toNat b) hB.is rfl] at hz
   exact ⟨_, rfl, .inr ⟨x, _, rfl, rfl, hrng, set_of (x := x) (pg := x.pg.set at_.toNat b) hB.inv hB.go.f hB.go.vw hB.is rfl rfl (by rw [List.length_set]; exact (hI.ent hid).2.2.2.2.1), shT_shut (S := setP S2 id ⟨x.refs, 1, (k : Nat), x.pg⟩ (x.pg.set at_.toNat b)) hz⟩⟩
  refine ⟨_, rfl, ?_⟩
  replace hS10 := hS10.join rfl; dsimp only [List.dropLast, List.cons_append, List.nil_append] at hS10; clear hC10
  clear hS9
  refine wl_move rfl rfl (wl_extract rfl rfl rfl (wl_extract rfl rfl rfl (wl_assign rfl rfl (wl_assign rfl rfl (wl_nil (qs_seq ?_))))))
  refine wc_sub (L' := [(12, _), (11, _), (8, _), (0, _), (2, _), (3, _)]) (.cons rfl (.cons rfl (.cons rfl (.cons rfl (.cons rfl (.cons rfl .nil)))))) ?_
  refine wc_seq (wc_seq (wc_region (wl_move rfl rfl ?_)))
  refine wl_neq rfl rfl rfl ?_
  refine wl_nil (qs_seq ?_)
  refine wc_condD rfl (fun h17 => ?_) (fun h17 => ?_)
  ·refine wc_seq (wc_region (wl_move rfl rfl (wl_assign rfl rfl (wl_nil (qs_seq (wc_ret (qs_then_ret ?_)))))))
   refine fin1 (.inr rfl) rfl rfl ?_
   exact ⟨_, rfl, .inl ⟨_, rfl, by first | decide | omega, hS10.pick [0, 1] rfl⟩⟩
  exact absurd (by decide) h17
end Go.Proofs.YtnicmcdeoimhlaaGreat
/- maps.Keys -/
namespace Go.Proofs.YtnicmcdeoimhlaaGreat
open Go.RowKit M
set_option linter.unusedVariables false
set_option maxRecDepth 100000 in
theorem keysI_it {w : World} {l c b : Nat} {g : Int → Option Value} {J : List Int → Th} {F : Th} (hS : Sat w [J [], blkT c [.map (some b)], mapT intK b g, F]) (hY : YieldsT Tryz.prog l intK (okC g) J) :
    Calls Tryz.prog 76 #[.func (.yield l) #[] #[], ptrV c 0] w (Ret fun v w' => ∃ ks, AllC g ks ∧ Sat w' [J ks, blkT c [.map (some b)], mapT intK b g, F]) := by
 refine calls_enter Tryz.func76 rfl Tryz.ntmps76 rfl ?_
 refine wc_seq (wc_region ?_)
 refine wl_load rfl ag_56 (by first | assumption | exact hS.cell 1 rfl rfl) rfl ?_
 refine wl_range 2 hS Tryz.underlying56 rfl rfl rfl ?_
 intro RR left0 wR hSR; dsimp only [List.set] at hSR
 refine wl_nil (qs_seq (wc_block ?_))
 refine wc_loop (fun K0 E0 W0 => ∃ (dn : Int → Prop) (cur : Option Int) (left : Nat) (ks : List Int), K0 = 1 * left ∧ E0 = [(0, .func (.yield l) #[] #[]), (5, ptrV RR 0)] ∧ Sat W0 [J ks, rangeT intK b RR g dn cur left, blkT c [.map (some b)], F] ∧ (CSt g dn ks)) (L0 := [(0, _), (5, _)]) (1 * left0) (.cons rfl (.cons rfl .nil)) ⟨_, _, _, _, rfl, rfl, hSR.reorder [0, 2, 1, 3] rfl, CSt.start g⟩ ?_
 rintro _ _ w1 ⟨dn, cur, left, ks, rfl, rfl, hS1, hcs⟩
 refine wc_seq (wc_region ?_)
 refine wl_next 1 hS1 keysInt.inj rfl rfl rfl (fun hdone => ?_) (fun k v left2 w2 hleft hgk hnd hS2 => ?_)
 ·refine wl_extract rfl rfl rfl (wl_nil (qs_seq (wc_seq ?_)))
  refine wc_condF rfl ?_
  refine wc_exit (qs_then_exit (qs_then_exit (qs_block_exit ?_)))
  refine fin0 (.inl rfl) rfl ?_
  exact ⟨_, rfl, ks, hcs.all hdone, by have hSz := range_map (hS1.reorder [1, 0, 2, 3] rfl); exact hSz.reorder [1, 2, 0, 3] rfl⟩
 dsimp only [List.set] at hS2
 refine wl_extract rfl rfl rfl (wl_nil (qs_seq (wc_seq ?_)))
 refine wc_condT rfl ?_
 refine wc_skip (qs_seq (wc_block (wc_seq (wc_region ?_))))
 refine wl_entry 1 hS2 rfl hgk rfl rfl ?_
 refine wl_extract rfl rfl rfl (wl_assign rfl rfl (wl_nil (qs_seq (wc_seq ?_))))
 refine wc_regionI ?_
 refine wlI_val rfl (ev_move rfl) ?_
 refine wlI_val rfl (ev_move rfl) ?_
 have hSy := (hS2.split [0] [true, false, false, false] rfl); dsimp only [selF, pickA, nthA, List.cons_append, List.nil_append] at hSy
 refine wlI_yield rfl rfl rfl (hY _ _ _ _ (hcs.ok hnd hgk) hSy) ?_
 intro w5 hS5; replace hS5 := hS5.join rfl; dsimp only [List.dropLast, List.cons_append, List.nil_append] at hS5
 refine wlI_val rfl (ev_not rfl) ?_
 refine wlI_nil ?_
 refine qs_seq ?_
 refine wc_sub (L' := [(13, _), (0, _), (5, _)]) (.cons rfl (.cons rfl (.cons rfl .nil))) ?_
 refine wc_condF rfl ?_
 refine wc_skip (qs_block_normal ?_)
 have hSz := hS5.reorder [0, 1, 2, 3] rfl; dsimp only [pickA, nthA] at hSz
 exact qs_round (L1 := [(0, _), (5, _)]) (.cons rfl (.cons rfl .nil)) (k1 := 1 * left2) (by omega) ⟨_, _, _, _, rfl, rfl, hSz, hcs.step hnd hgk⟩
theorem keysI_sp {w : World} {v0 : Value} {F : Th} (hS : Sat w [F]) (h0 : v0.oneCell' = true) :
    Calls Tryz.prog 43 #[v0] w (Ret fun v w' => ∃ c, v = .func (.func 76) #[] #[ptrV c 0] ∧ Sat w' [blkT c v0.cells.toList, F]) := by
 refine calls_enter Tryz.func43 rfl Tryz.ntmps43 rfl ?_
 refine wc_seq (wc_region ?_)
 refine wl_box hS rfl rfl rfl ?_
 intro b1 w1 hS1
 refine wl_assign rfl rfl (wl_nil (qs_seq (wc_seq (wc_region ?_))))
 refine wl_makeFunc rfl rfl ?_
 refine wl_assign rfl rfl (wl_nil (qs_seq (wc_ret ?_)))
 refine fin1 (.inr rfl) rfl rfl ?_
 exact ⟨_, rfl, _, rfl, hS1⟩
end Go.Proofs.YtnicmcdeoimhlaaGreat
/- sheets: Live -/
namespace Go.Proofs.YtnicmcdeoimhlaaGreat
open Go.RowKit M
set_option linter.unusedVariables false
theorem sortI0 {w : World} {v : Value} {l : List Int} {F : Th} (hS : Sat w [rowT inC v l, F]) (hl : l.length < 4611686018427387904) : Calls Tryz.prog 75 #[v] w (Ret fun u w' => u = .tuple #[] ∧ Sat w' [rowT inC v (sortI l), F]) := calls_sortI Tryz.slices_Sort_int Tryz.slices_Sort_int_none hS hl
def ItI (g : Int → Option Value) (gf : Nat) (caps : List Value) (It : Th) : Prop := ∀ (l : Nat) (J : List Int → Th) (X : Th) (w : World), Sat w [J [], It, X] → YieldsT Tryz.prog l intK (okC g) J → Calls Tryz.prog gf (.func (.yield l) #[] #[] :: caps).toArray w (Ret fun _ w' => ∃ ks, AllC g ks ∧ Sat w' [J ks, It, X])
def JI (l D b : Nat) (rec : Loop) (ks : List Int) : Th := exT fun v : Value => starL [loopT l rec, deferT D, blkT b [v], rowT inC v ks]
set_option maxRecDepth 100000 in
theorem appI {w : World} {g : Int → Option Value} {It F : Th} {gf : Nat} {caps : List Value} (hS : Sat w [It, F]) (hcal : callB Tryz.prog gf = true) (hIt : ItI g gf caps It) (hlen : ∀ ks, Came g ks → ks.length ≤ 1000000) :
    Calls Tryz.prog 97 [.slice none 0 0, .func (.func gf) #[] caps.toArray].toArray w (Ret fun v w' => ∃ ks, AllC g ks ∧ Sat w' [rowT inC v ks, It, F]) := by
 refine calls_enterM Tryz.func97 rfl Tryz.ntmps97 rfl ?_
 refine wc_seq (wc_region ?_)
 refine wl_box hS rfl rfl rfl ?_
 intro b1 w1 hS1
 refine wl_assign rfl rfl (wl_nil (qs_seq (wc_seq (wc_seq (wc_region (wl_move rfl rfl (wl_nil (qs_seq (wc_block ?_)))))))))
 refine wc_rangeFunc (caps := caps) rfl hcal ?_
 intro rec hr1 hr2 hr3 hr4 hr5 htn htf
 have hE := ((hS1.enter_loop rec).row_nil inC)
 have hE2 := (hE.split [1, 2, 3, 0] [true, true, true, true, false, false] rfl); dsimp only [selF, pickA, nthA, List.cons_append, List.nil_append] at hE2
 have hJ0 := Sat.ex_intro (f := fun v : Value => starL [loopT _ _, deferT _, blkT _ [v], rowT inC v []]) _ (Sat.fold (As := [loopT _ _, deferT _, blkT _ [_], rowT inC _ []]) hE2)
 refine (hIt _ (JI _ _ _ _) _ _ (hJ0.join rfl) ?_).mono ?_
 ·intro ks k R w2 hok hw2
  obtain ⟨v, hw3⟩ := hw2.ex
  have hw4 := hw3.flat; dsimp only [List.cons_append, List.nil_append] at hw4
  have hl1 := hlen _ hok
  simp only [List.length_append, List.length_cons, List.length_nil] at hl1
  refine yield_sp (hw4.loop 0 rfl) hr1 hr2 hr3 hr4 hr5 htn htf rfl (by intro o ho c; simp at ho; subst ho; simp) (by intro o ho c; simp at ho; rcases ho with rfl | rfl | rfl | rfl | rfl <;> simp) ?_
  intro QA hA
  refine wl_assign rfl rfl (wl_nil ?_)
  refine hA _ _ (hw4.loop 0 rfl) ?_
  intro QB hB
  have h1v : v.oneCell' = true := hw4.own_one 3 rfl
  have hw5 := hw4.loop_put 0 rfl (rec' := { rec with state := .busy }); dsimp only [List.set] at hw5
  refine wl_load rfl ag_28 (hw5.cell 2 rfl rfl) rfl ?_
  refine wl_move rfl rfl ?_
  refine wl_rowBuild inC [k] hw5 rfl Tryz.underlying28 ifz_3 rfl rfl rfl rfl (by first | rfl | simp [RowC.cells, fillL, splice]) rfl ?_
  intro b3 w3 hw6
  refine wl_rowApp inC 4 hw6 rfl rfl rfl (hw6.rd 0 rfl (by simp)) Tryz.underlying28 Tryz.underlying28 (by intro k hk; cases hk) ifo_3 rfl (by simp; omega) rfl (by simp; omega) ?_
  intro v4 w4 hw7; dsimp only [List.set] at hw7
  have h1v4 : v4.oneCell' = true := hw7.own_one 4 rfl
  refine wl_store hw7 rfl rfl sz_28 h1v4 (i := 3) rfl (by simp) ?_
  intro w5 hw8; dsimp only [List.set] at hw8
  refine wl_nil ?_
  refine hB _ _ (hw8.loop 1 rfl) ?_
  have hw9 := hw8.loop_put 1 rfl (rec' := rec); dsimp only [List.set] at hw9
  exact (Sat.ex_intro (f := fun v : Value => starL [loopT _ _, deferT _, blkT _ [v], rowT inC v (ks ++ [k])]) v4 (Sat.fold (As := [loopT _ _, deferT _, blkT _ [_], rowT inC _ _]) (hw9.pick [1, 2, 3, 4, 5] rfl)))
 ·rintro e w3 ⟨v0, rfl, ks, hall, hw3⟩
  obtain ⟨v, hw4⟩ := hw3.ex
  have hw5 := hw4.flat; dsimp only [List.cons_append, List.nil_append] at hw5
  refine ⟨⟨v0, rfl⟩, rec, hw5.loop 0 rfl, by rw [hr1]; simp, hr2, ?_⟩
  intro a ha1 ha2
  have hw6 := hw5.loop_put 0 rfl (rec' := { rec with state := .exhausted }); dsimp only [List.set] at hw6
  obtain ⟨hD, hw7⟩ := hw6.defer_put (o := .deferred none) 1 rfl
  dsimp only [List.eraseIdx] at hw7
  refine tail_ret (n := 13) (by rw [ha1]; exact htn) (by rw [ha1]; exact htf) ha2 rfl ag_28 (hw6.cell 2 rfl rfl) hD rfl rfl rfl ?_
  exact ⟨_, rfl, ks, hall, hw7.pick [2, 3, 4] rfl⟩
def keysTI (c b : Nat) (g : Int → Option Value) : Th := starL [blkT c [.map (some b)], mapT intK b g]
theorem itI (c b : Nat) (g : Int → Option Value) : ItI g 76 [ptrV c 0] (keysTI c b g) := fun l J X w hS hY => by
  have h1 := (hS.perm (List.Perm.swap _ _ _)).flat; dsimp only [List.cons_append, List.nil_append] at h1
  refine (keysI_it (h1.reorder [2, 0, 1, 3] rfl) hY).mono fun e w' h => h.mono fun v w' ⟨ks, h2, h3⟩ => ⟨ks, h2, ?_⟩
  exact (Sat.fold (As := [blkT c [.map (some b)], mapT intK b g]) (h3.reorder [1, 2, 0, 3] rfl)).perm (List.Perm.swap _ _ _)
theorem Came.of_all {κ : Type} {g : κ → Option Value} {ks : List κ} (h : AllC g ks) : Came g ks := ⟨h.nodup, fun k hk => (h.mem k).1 hk⟩
theorem colI {w : World} {g : Int → Option Value} {It F : Th} {gf : Nat} {caps : List Value} (hS : Sat w [It, F]) (hcal : callB Tryz.prog gf = true) (hIt : ItI g gf caps It) (hlen : ∀ ks, Came g ks → ks.length ≤ 1000000) :
    Calls Tryz.prog 74 #[.func (.func gf) #[] caps.toArray] w (Ret fun v w' => ∃ ks, AllC g ks ∧ Sat w' [rowT inC v ks, It, F]) := by
 refine calls_enter Tryz.func74 rfl Tryz.ntmps74 rfl ?_
 refine wc_seq (wc_region (wl_assign rfl rfl (wl_nil (qs_seq (wc_seq (wc_region (wl_move rfl rfl ?_)))))))
 have hC1 := hS.split [0] [true, false] rfl; dsimp only [selF, pickA, nthA, List.cons_append, List.nil_append] at hC1
 refine wl_call cal_97 rfl (appI hC1 hcal hIt hlen) rfl ?_
 rintro e w1 ⟨_, rfl, ks, hks, hS1⟩; refine ⟨_, rfl, ?_⟩
 replace hS1 := hS1.join rfl; dsimp only [List.dropLast, List.cons_append, List.nil_append] at hS1; clear hC1
 have h1v := hS1.own_one 0 rfl
 refine wl_assign rfl rfl (wl_nil (qs_seq (wc_ret ?_)))
 refine fin1 (.inr rfl) rfl rfl ?_
 exact ⟨_, rfl, ks, hks, hS1⟩
theorem sortedI_sp {w : World} {g : Int → Option Value} {It F : Th} {gf : Nat} {caps : List Value} (hS : Sat w [It, F]) (hcal : callB Tryz.prog gf = true) (hIt : ItI g gf caps It) (hlen : ∀ ks, Came g ks → ks.length ≤ 1000000) :
    Calls Tryz.prog 42 #[.func (.func gf) #[] caps.toArray] w (Ret fun v w' => ∃ ks, AllC g ks ∧ Sat w' [rowT inC v (sortI ks), It, F]) := by
 refine calls_enter Tryz.func42 rfl Tryz.ntmps42 rfl ?_
 refine wc_seq (wc_region (wl_assign rfl rfl (wl_nil (qs_seq (wc_seq (wc_region (wl_move rfl rfl ?_)))))))
 have hC1 := hS.split [0] [true, false] rfl; dsimp only [selF, pickA, nthA, List.cons_append, List.nil_append] at hC1
 refine wl_call cal_74 rfl (colI hC1 hcal hIt hlen) rfl ?_
 rintro e w1 ⟨_, rfl, ks, hks, hS1⟩; refine ⟨_, rfl, ?_⟩
 replace hS1 := hS1.join rfl; dsimp only [List.dropLast, List.cons_append, List.nil_append] at hS1; clear hC1
 have h1v := hS1.own_one 0 rfl
 have hln := hlen _ (Came.of_all hks)
 refine wl_assign rfl rfl (wl_nil (qs_seq (wc_seq (wc_region (wl_move rfl rfl ?_)))))
 have hC2 := hS1.split [0] [true, false, false] rfl; dsimp only [selF, pickA, nthA, List.cons_append, List.nil_append] at hC2
 refine wl_call cal_75 rfl (sortI0 hC2 (by omega)) rfl ?_
 rintro e w2 ⟨_, rfl, rfl, hS2⟩; refine ⟨_, rfl, ?_⟩
 replace hS2 := hS2.join rfl; dsimp only [List.dropLast, List.cons_append, List.nil_append] at hS2; clear hC2
 clear hS1
 refine wl_nil (qs_seq (wc_seq (wc_region (wl_move rfl rfl (wl_assign rfl rfl (wl_nil (qs_seq (wc_ret ?_))))))))
 refine fin1 (.inr rfl) rfl rfl ?_
 exact ⟨_, rfl, ks, hks, hS2⟩
theorem nodup_le : ∀ {l m : List Int}, l.Nodup → (∀ x ∈ l, x ∈ m) → l.length ≤ m.length
  | [], _, _, _ => Nat.zero_le _
  | a :: l, m, hn, hs => by
    obtain ⟨h1, h2⟩ := List.nodup_cons.1 hn
    have h3 := nodup_le (l := l) (m := m.erase a) h2 fun x hx => (List.mem_erase_of_ne (fun q => h1 (by rw [← q]; exact hx))).2 (hs x (List.mem_cons_of_mem _ hx))
    have h4 := hs a (by simp)
    have h5 := List.length_erase_of_mem h4
    have h6 := List.length_pos_of_mem h4
    rw [List.length_cons]; omega
set_option maxRecDepth 100000 in
theorem shlive_sp {w : World} {p : Nat} {S : SS} {F : Th} (hS : Sat w [shT p S, F]) {ids : List Int} (hd : ∀ j, S.all j ≠ none → j ∈ ids) (hl : ids.length ≤ 1000000) :
    Calls Tryz.prog 17 #[ptrV p 0] w (Ret fun v w' => ∃ ks, AllC (aG S.all) ks ∧ Sat w' [rowT inC v (sortI ks), shT p S, F]) := by
 have hlen : ∀ ks : List Int, Came (aG S.all) ks → ks.length ≤ 1000000 := fun ks hk => Nat.le_trans (nodup_le hk.nodup fun x hx => hd x fun q => hk.has x hx (by unfold aG; rw [q]; rfl)) hl
 obtain ⟨ba, bi, fp, sp, kp, ac, cc, at2, ct, hS⟩ := shT_open hS
 refine calls_enter Tryz.func17 rfl Tryz.ntmps17 rfl ?_
 refine wc_seq (wc_region (wl_assign rfl rfl (wl_nil (qs_seq (wc_seq (wc_region (wl_move rfl rfl (wl_nilCheck rfl rfl ?_))))))))
 refine wl_fieldAddr rfl fo_65_0 rfl ?_
 refine wl_load rfl ag_56 (by first | assumption | exact hS.cell 0 rfl rfl) rfl ?_
 have hC1 := hS.split [] [false, false, false, false, false, false, false, false, false] rfl; dsimp only [selF, pickA, nthA, List.cons_append, List.nil_append] at hC1
 refine wl_call cal_43 rfl (keysI_sp hC1 rfl) rfl ?_
 rintro e w1 ⟨_, rfl, ck, rfl, hS1⟩; refine ⟨_, rfl, ?_⟩
 replace hS1 := hS1.join rfl; dsimp only [List.dropLast, List.cons_append, List.nil_append] at hS1; clear hC1
 have hK := Sat.fold (As := [blkT ck [.map (some ba)], mapT intK ba (aG S.all)]) (hS1.pick [0, 2, 1, 3, 4, 5, 6, 7, 8, 9] rfl)
 have hC2 := hK.split [0] [true, false, false, false, false, false, false, false, false] rfl; dsimp only [selF, pickA, nthA, List.cons_append, List.nil_append] at hC2
 refine wl_call cal_42 rfl (sortedI_sp hC2 cal_76 (itI ck ba (aG S.all)) hlen) rfl ?_
 rintro e w2 ⟨_, rfl, ks, hks, hS2⟩; refine ⟨_, rfl, ?_⟩
 replace hS2 := hS2.join rfl; dsimp only [List.dropLast, List.cons_append, List.nil_append] at hS2; clear hC2
 clear hK
 refine wl_assign rfl rfl (wl_nil (qs_seq (wc_ret ?_)))
 refine fin1 (.inr rfl) rfl rfl ?_
 have hz := (hS2.pick [1, 0, 2, 3, 4, 5, 6, 7, 8, 9] rfl).flat; dsimp only [keysTI, List.cons_append, List.nil_append] at hz
 exact ⟨_, rfl, ks, hks, (shT_shut (S := S) (hz.pick [3, 1, 4, 5, 6, 7, 8, 9, 2, 10] rfl)).reorder [1, 0, 2] rfl⟩
end Go.Proofs.YtnicmcdeoimhlaaGreat
/- laws of sheets: Page, Few; contracts by cases -/
namespace Go.Proofs.YtnicmcdeoimhlaaGreat
open Go.RowKit M
set_option linter.unusedVariables false
structure OpD where
  d : Int
  id : Int
  at_ : Int
  n : Int
  s : Bs
def opV (o : OpD) : List Value := [intV o.d, intV o.id, intV o.at_, intV o.n, strV o.s]
def opC : RowC OpD := ⟨opV, 5, by decide, fun _ => rfl, fun _ => rfl⟩
def okO (o : OpD) : Bool := !((decide (o.d = 5) && decide (300 < o.n)) || decide (100 < o.s.length))
def fewB (l : List OpD) (n : Int) : Bool := l.all okO && decide ((l.length : Int) ≤ n)
def u8 (y : Int) : UInt8 := UInt8.ofNat (y % 256).toNat
theorem wrapU8 (y : Int) : IntKind.u8.wrap y = ((u8 y).toNat : Int) := by
  have h : IntKind.u8.wrap y = y % 256 := by simp [IntKind.wrap, IntKind.signed, IntKind.bits]
  rw [h, u8]
  simp; omega
def padI (s : Bs) (i : Nat) : Bs := (List.range 64).map fun j => if j < i then (s[j]?).getD 0 else 0
theorem padI_zero (s : Bs) : padI s 0 = List.replicate 64 0 := by
  apply List.ext_getElem?
  intro j
  unfold padI
  rw [List.getElem?_map, List.getElem?_replicate]
  by_cases h : j < 64
  · rw [List.getElem?_range h, if_pos h]; simp
  · rw [List.getElem?_eq_none (by simp; omega), if_neg h]; rfl
theorem padI_step {s : Bs} {i : Nat} {c : UInt8} (h : s[i]? = some c) (hi : i < 64) : (padI s i).set i c = padI s (i + 1) := by
  apply List.ext_getElem?
  intro j
  by_cases q : i = j
  · subst q
    rw [List.getElem?_set_self (by simp [padI]; exact hi)]
    unfold padI
    rw [List.getElem?_map, List.getElem?_range hi]; simp [h]
  · rw [List.getElem?_set_ne q]
    unfold padI
    rw [List.getElem?_map, List.getElem?_map]
    by_cases hj : j < 64
    · rw [List.getElem?_range hj]
      simp only [Option.map_some, Option.some.injEq]
      by_cases h1 : j < i
      · rw [if_pos h1, if_pos (by omega)]
      · rw [if_neg h1, if_neg (by omega)]
    · rw [List.getElem?_eq_none (by simp; omega)]; rfl
theorem padI_end {s : Bs} {i : Nat} (h : s.length ≤ i ∨ 64 ≤ i) : padI s i = b64 s := by
  unfold padI b64
  refine List.map_congr_left fun j hj => ?_
  rw [List.mem_range] at hj
  by_cases h1 : j < i
  · rw [if_pos h1]
  · rw [if_neg h1, List.getElem?_eq_none (by omega)]; rfl
theorem byrow (m : Nat) : (List.replicate m [Value.int .u8 0]).flatten = byC.cells (List.replicate m 0) := by
  induction m with
  | zero => rfl
  | succ m ih => rw [List.replicate_succ, List.flatten_cons, ih, List.replicate_succ]; rfl
/-- what an operation shows, and what it changes -/
def DoV (o : OpD) (a e : Int) (V V' : Int → Option (Int × Bs)) : Prop :=
  (o.d = 0 ∧ b64 o.s = zer ∧ a = 0 ∧ e = 0 ∧ V' = V) ∨
  (((o.d = 0 ∧ b64 o.s ≠ zer) ∨ o.d = 10) ∧ ((a = 0 ∧ e = 6 ∧ V' = V) ∨ (1 ≤ a ∧ e = 0 ∧ V a = none ∧ V' = up V a (some (1, b64 o.s))))) ∨
  (o.d = 1 ∧ a = 0 ∧ ((V o.id = none ∧ V' = V) ∨ ∃ r pg, V o.id = some (r, pg) ∧ e = 0 ∧ V' = up V o.id (some (r + 1, pg)))) ∨
  (o.d = 2 ∧ a = 0 ∧ ((V o.id = none ∧ V' = V) ∨ ∃ r pg, V o.id = some (r, pg) ∧ e = 0 ∧ ((1 < r ∧ V' = up V o.id (some (r - 1, pg))) ∨ (r = 1 ∧ V' = up V o.id none)))) ∨
  (o.d = 3 ∧ a = 0 ∧ ((e ≠ 0 ∧ V' = V) ∨ ∃ r pg, V o.id = some (r, pg) ∧ e = 0 ∧ (0 ≤ o.at_ ∧ o.at_ < 64) ∧ V' = up V o.id (some (r, pg.set o.at_.toNat (u8 o.n))))) ∨
  (o.d = 8 ∧ a = 0 ∧ ((e ≠ 0 ∧ V' = V) ∨ (e = 0 ∧ V o.id = none ∧ 1 ≤ o.id ∧ V' = up V o.id (some (1, b64 o.s))))) ∨
  ((o.d ≠ 0 ∧ o.d ≠ 1 ∧ o.d ≠ 2 ∧ o.d ≠ 3 ∧ o.d ≠ 8 ∧ o.d ≠ 10) ∧ V' = V)
structure DoP (N : Nat) (S S' : SS) (o : OpD) (a e : Int) : Prop where
  inv : ShI no0 (N + 301) S'
  f : ShF S S'
  v : DoV o a e (vw S) (vw S')
theorem vw_none {S : SS} {j : Int} (h : S.all j = none) : vw S j = none := by unfold vw; rw [h]; rfl
theorem vw_some {S : SS} {j : Int} {x : ShE} (h : S.all j = some x) : vw S j = some (x.refs, x.pg) := by unfold vw; rw [h]; rfl
theorem vw_back {S : SS} {j r : Int} {pg : Bs} (h : vw S j = some (r, pg)) : ∃ x, S.all j = some x ∧ x.refs = r ∧ x.pg = pg := by
  unfold vw at h
  cases hq : S.all j with
  | none => rw [hq] at h; cases h
  | some x => rw [hq] at h; simp at h; exact ⟨x, rfl, h.1, h.2⟩
theorem vw_nil {S : SS} {j : Int} (h : vw S j = none) : S.all j = none := by
  unfold vw at h
  cases hq : S.all j with
  | none => rfl
  | some x => rw [hq] at h; cases h
theorem le_sum_mem : ∀ {l : List Nat} {a : Nat}, a ∈ l → a ≤ l.sum
  | b :: l, a, h => by
    rw [List.sum_cons]
    rcases List.mem_cons.1 h with rfl | h
    · omega
    · have := le_sum_mem h; omega
theorem one_frame {N : Nat} {S : SS} {i j : Int} {x y : ShE} (hI : ShI no0 N S) (h1 : S.fr.length = 1) (hb : S.budget = 0) (hx : S.all i = some x) (hp : x.place = 1) (hy : S.all j = some y) (hij : i ≠ j) : y.place = 3 := by
  obtain ⟨a1, a2, a3, a4, a5, a6⟩ := hI.ent hy
  have hf := frAt_lt (hI.frc (fun q => q) hx hp)
  rcases a6 with a6 | a6 | a6
  · exfalso
    have hg := frAt_lt (hI.frc (fun q => q) hy a6)
    have e : x.at_ = y.at_ := by omega
    have b1 := (hI.frm x.at_ i).2 ⟨fun q => q, x, hx, hp, rfl⟩
    have b2 := (hI.frm x.at_ j).2 ⟨fun q => q, y, hy, a6, e.symm⟩
    rw [b1] at b2; cases b2; exact hij rfl
  · exfalso
    obtain ⟨c1, c2⟩ := hI.pck (fun q => q) hy a6
    obtain ⟨f, hf2⟩ := Option.ne_none_iff_exists'.1 c2
    have c3 := packM_pos hf2 (fun q => by rw [q] at a5; simp at a5)
    have c4 := hI.sum
    rw [hb] at c4
    have c5 : fmL S.all j ≤ sumF S.all S.cache := by
      unfold sumF
      exact le_sum_mem (List.mem_map_of_mem c1)
    have c6 : fmL S.all j = f.length := by unfold fmL; rw [hy]; show (fm y.pg).length = _; unfold fm; rw [hf2]; rfl
    omega
  · exact a6
set_option maxRecDepth 100000 in
theorem page_sp {w : World} {F : Th} (hS : Sat w [F]) (s : Bs) :
    Calls Tryz.prog 12 #[strV s] w (Ret fun v w' => v = strV (b64 s) ∧ Sat w' [F]) := by
 refine calls_enter Tryz.func12 rfl Tryz.ntmps12 rfl ?_
 refine wc_seq (wc_region (wl_assign rfl rfl (wl_nil (qs_seq (wc_seq (wc_region ?_))))))
 refine wl_make hS 64 rfl rfl rfl Tryz.underlying70 ifo_5 rfl (by decide) (by decide) rfl ?_
 intro db w1 hS1a; have hS1 := hS1a.row_cast (l := List.replicate 64 0) (C := byC) (by simp) rfl (byrow 64); rw [← padI_zero s] at hS1
 refine wl_assign rfl rfl (wl_nil (qs_seq (wc_seq (wc_seq (wc_region (wl_assign rfl rfl (wl_nil (qs_seq (wc_block ?_)))))))))
 refine wc_loop (fun K0 E0 W0 => ∃ (i : Nat), K0 = 64 - i ∧ E0 = [(0, strV s), (3, .slice (some ⟨db, 0, none⟩) 64 64), (4, intV (i : Int))] ∧ Sat W0 [rowT byC (.slice (some ⟨db, 0, none⟩) 64 64) (padI s i), F] ∧ (i ≤ 64 ∧ i ≤ s.length)) (L0 := [(0, _), (3, _), (4, _)]) (64 - 0) (.cons rfl (.cons rfl (.cons rfl .nil))) ⟨0, rfl, rfl, hS1, by omega⟩ ?_
 rintro _ _ w2 ⟨i, rfl, rfl, hS2, hi⟩
 refine wc_seq (wc_seq (wc_region (wl_move rfl rfl (wl_move rfl rfl ?_))))
 refine wl_lenS Tryz.underlying9 rfl rfl ?_
 refine wl_lss rfl rfl rfl ?_
 refine wl_move rfl rfl ?_
 refine wl_splitD 10 rfl (fun h3 => ?_) (fun h3 => ?_)
 ·refine wl_guard rfl rfl (decide_eq_true h3) ?_
  refine wl_move rfl rfl ?_
  refine wl_guard rfl rfl (decide_eq_true h3) ?_
  refine wl_lss rfl rfl rfl ?_
  refine wl_pickT rfl (decide_eq_true h3) rfl rfl ?_
  refine wl_nil (qs_seq ?_)
  refine wc_sub (L' := [(13, _), (0, _), (3, _), (4, _)]) (.cons rfl (.cons rfl (.cons rfl (.cons rfl .nil)))) ?_
  refine wc_condD rfl (fun h4 => ?_) (fun h4 => ?_)
  ·obtain ⟨c, hc⟩ : ∃ c, s[i]? = some c := ⟨_, List.getElem?_eq_getElem (by omega)⟩
   obtain ⟨c1, hc1⟩ : ∃ c, (padI s i)[i]? = some c := ⟨_, List.getElem?_eq_getElem (by simp [padI]; omega)⟩
   refine wc_skip (qs_seq (wc_seq (wc_block (wc_region (wl_move rfl rfl (wl_move rfl rfl (wl_move rfl rfl (wl_move rfl rfl ?_))))))))
   refine wl_indexS i Tryz.underlying9 rfl rfl (by omega) hc rfl ?_
   refine wl_rowIdx byC 0 i hS2 rfl rfl rfl (by omega) hc1 es_70 rfl ?_
   intro bx5 capx5 hvx5
   refine wl_rowStore 0 i c hS2 rfl hvx5 rfl rfl sz_5 (by first | rfl | (simp; done)) (by first | omega | exact (List.getElem?_eq_some_iff.1 hc1).1) ?_
   intro w6 hS7; dsimp only [List.set] at hS7
   clear hS2
   refine wl_nil (qs_block_normal (qs_seq (wc_region (wl_move rfl rfl ?_))))
   refine wl_add rfl rfl (by omega) (by omega) rfl ?_
   refine wl_assign rfl rfl (wl_nil ?_)
   have hSz := hS7.pick [0, 1] rfl; rw [padI_step hc (by omega)] at hSz
   exact qs_round (L1 := [(0, _), (3, _), (4, intV ((i + 1 : Nat) : Int))]) (.cons rfl (.cons rfl (.cons rfl .nil))) (k1 := 64 - (i + 1)) (by omega) ⟨i + 1, rfl, rfl, hSz, by omega⟩
  refine wc_exit (qs_then_exit (qs_then_exit (qs_block_exit (qs_seq (wc_seq (wc_region (wl_move rfl rfl ?_)))))))
  refine wl_rowStr 0 hS2 rfl rfl Tryz.underlying70 Tryz.underlying5 Tryz.underlying9 rfl ?_
  refine wl_assign rfl rfl (wl_nil (qs_seq (wc_ret ?_)))
  refine fin1 (.inr rfl) rfl rfl ?_
  exact ⟨_, rfl, by rw [padI_end (by omega)], hS2.pick [1] rfl⟩
 refine wl_unwanted rfl rfl (decide_eq_false h3) rfl ?_
 refine wl_unwanted rfl rfl (decide_eq_false h3) rfl ?_
 refine wl_pickF rfl (decide_eq_false h3) rfl rfl ?_
 refine wl_nil (qs_seq ?_)
 refine wc_sub (L' := [(13, _), (0, _), (3, _), (4, _)]) (.cons rfl (.cons rfl (.cons rfl (.cons rfl .nil)))) ?_
 refine wc_condF rfl ?_
 refine wc_exit (qs_then_exit (qs_then_exit (qs_block_exit (qs_seq (wc_seq (wc_region (wl_move rfl rfl ?_)))))))
 refine wl_rowStr 0 hS2 rfl rfl Tryz.underlying70 Tryz.underlying5 Tryz.underlying9 rfl ?_
 refine wl_assign rfl rfl (wl_nil (qs_seq (wc_ret ?_)))
 refine fin1 (.inr rfl) rfl rfl ?_
 exact ⟨_, rfl, by rw [padI_end (by omega)], hS2.pick [1] rfl⟩
theorem few_bad {l : List OpD} {n : Int} {i : Nat} {o : OpD} (ha : l[i]? = some o) (h : okO o = false) : Value.bool false = .bool (fewB l n) := by
  have : l.all okO = false := by
    rw [List.all_eq_false]; exact ⟨o, List.mem_of_getElem? ha, by rw [h]; simp⟩
  simp [fewB, this]
theorem few_end {l : List OpD} {n : Int} {i : Nat} (hok : ∀ j a, j < i → l[j]? = some a → okO a = true) (hi : i ≤ l.length) (he : ¬ i < l.length) : Value.bool (decide ((l.length : Int) ≤ n)) = .bool (fewB l n) := by
  have : l.all okO = true := by
    rw [List.all_eq_true]; intro a ha
    obtain ⟨j, hj⟩ := List.mem_iff_getElem?.1 ha
    exact hok j a (by have := (List.getElem?_eq_some_iff.1 hj).1; omega) hj
  simp only [fewB, this, Bool.true_and]
set_option maxRecDepth 100000 in
set_option maxHeartbeats 800000 in
theorem few_sp {w : World} {F : Th} (hS : Sat w [F]) {lv : Value} {l : List OpD} (hL : Ent F (RdL opC lv l)) (n : Int) :
    Calls Tryz.prog 10 #[lv, intV n] w (Ret fun v w' => v = .bool (fewB l n) ∧ Sat w' [F]) := by
 obtain ⟨ao, cap, rfl, hmax⟩ := (hL.sat hS 0 rfl).shape
 refine calls_enter Tryz.func10 rfl Tryz.ntmps10 rfl ?_
 refine wc_seq (wc_region (wl_assign rfl rfl (wl_nil (qs_seq (wc_seq (wc_seq (wc_region (wl_assign rfl rfl (wl_nil (qs_seq (wc_block ?_)))))))))))
 refine wc_loop (fun K0 E0 W0 => ∃ (i : Nat), K0 = l.length - i ∧ E0 = [(0, .slice ao l.length cap), (1, intV n), (5, intV (i : Int))] ∧ Sat W0 [F] ∧ (i ≤ l.length) ∧ (∀ j a, j < i → l[j]? = some a → okO a = true)) (L0 := [(0, _), (1, _), (5, _)]) (l.length - 0) (.cons rfl (.cons rfl (.cons rfl .nil))) ⟨0, rfl, rfl, hS, by omega, by omega⟩ ?_
 rintro _ _ w1 ⟨i, rfl, rfl, hS1, hi, hok⟩
 refine wc_seq (wc_seq (wc_region (wl_move rfl rfl (wl_move rfl rfl ?_))))
 refine wl_lenL Tryz.underlying22 rfl rfl ?_
 refine wl_lss rfl rfl rfl ?_
 refine wl_nil (qs_seq ?_)
 refine wc_condD rfl (fun h2 => ?_) (fun h2 => ?_)
 ·obtain ⟨o, ho⟩ : ∃ o, l[i]? = some o := ⟨_, List.getElem?_eq_getElem (by omega)⟩
  obtain ⟨b, off, rfl, hc⟩ := (hL.sat hS1 0 rfl).get ho
  have hil := (List.getElem?_eq_some_iff.1 ho).1
  have c0 := hc 0 _ rfl; have c3 := hc 3 _ rfl; have c4 := hc 4 _ rfl; clear hc
  refine wc_skip (qs_seq (wc_seq (wc_block (wc_seq (wc_region (wl_move rfl rfl (wl_move rfl rfl ?_)))))))
  refine wl_indexAddr i rfl rfl (by first | rfl | omega) (by omega) es_22 rfl ?_
  refine wl_fieldAddr rfl fo_33_0 rfl ?_
  refine wl_load rfl ag_3 (by first | assumption) rfl ?_
  refine wl_eql rfl rfl rfl ?_
  refine wl_move rfl rfl ?_
  refine wl_splitD 18 rfl (fun h3 => ?_) (fun h3 => ?_)
  ·refine wl_guard rfl rfl (decide_eq_true h3) ?_
   refine wl_move rfl rfl ?_
   refine wl_guard rfl rfl (decide_eq_true h3) ?_
   refine wl_move rfl rfl ?_
   refine wl_guard rfl rfl (decide_eq_true h3) ?_
   refine wl_indexAddr i rfl rfl (by first | rfl | omega) (by omega) es_22 rfl ?_
   refine wl_guard rfl rfl (decide_eq_true h3) ?_
   refine wl_fieldAddr rfl fo_33_3 rfl ?_
   refine wl_guard rfl rfl (decide_eq_true h3) ?_
   refine wl_load rfl ag_3 (by first | assumption) rfl ?_
   refine wl_guard rfl rfl (decide_eq_true h3) ?_
   refine wl_gtr rfl rfl rfl ?_
   refine wl_pickT rfl (decide_eq_true h3) rfl rfl ?_
   refine wl_move rfl rfl ?_
   refine wl_splitD 26 rfl (fun h4 => ?_) (fun h4 => ?_)
   ·have hoo : okO o = false := by simp [okO]; omega
    refine wl_unwanted rfl rfl (decide_eq_true h4) rfl ?_
    refine wl_unwanted rfl rfl (decide_eq_true h4) rfl ?_
    refine wl_unwanted rfl rfl (decide_eq_true h4) rfl ?_
    refine wl_unwanted rfl rfl (decide_eq_true h4) rfl ?_
    refine wl_unwanted rfl rfl (decide_eq_true h4) rfl ?_
    refine wl_unwanted rfl rfl (decide_eq_true h4) rfl ?_
    refine wl_unwanted rfl rfl (decide_eq_true h4) rfl ?_
    refine wl_pickT rfl (decide_eq_true h4) rfl rfl ?_
    refine wl_nil (qs_seq ?_)
    refine wc_sub (L' := [(34, _), (0, _), (1, _), (5, _)]) (.cons rfl (.cons rfl (.cons rfl (.cons rfl .nil)))) ?_
    refine wc_condT rfl ?_
    refine wc_seq (wc_region (wl_assign rfl rfl (wl_nil (qs_seq (wc_ret (qs_block_ret (qs_then_ret (qs_then_ret (qs_block_ret (qs_then_ret ?_))))))))))
    refine fin1 (.inr rfl) rfl rfl ?_
    exact ⟨_, rfl, few_bad ho hoo, hS1.pick [0] rfl⟩
   refine wl_guard rfl rfl (decide_eq_false h4) ?_
   refine wl_move rfl rfl ?_
   refine wl_guard rfl rfl (decide_eq_false h4) ?_
   refine wl_move rfl rfl ?_
   refine wl_guard rfl rfl (decide_eq_false h4) ?_
   refine wl_indexAddr i rfl rfl (by first | rfl | omega) (by omega) es_22 rfl ?_
   refine wl_guard rfl rfl (decide_eq_false h4) ?_
   refine wl_fieldAddr rfl fo_33_4 rfl ?_
   refine wl_guard rfl rfl (decide_eq_false h4) ?_
   refine wl_load rfl ag_9 (by first | assumption) rfl ?_
   refine wl_guard rfl rfl (decide_eq_false h4) ?_
   refine wl_lenS Tryz.underlying9 rfl rfl ?_
   refine wl_guard rfl rfl (decide_eq_false h4) ?_
   refine wl_gtr rfl rfl rfl ?_
   refine wl_pickF rfl (decide_eq_false h4) rfl rfl ?_
   refine wl_nil (qs_seq ?_)
   refine wc_sub (L' := [(34, _), (0, _), (1, _), (5, _)]) (.cons rfl (.cons rfl (.cons rfl (.cons rfl .nil)))) ?_
   refine wc_condD rfl (fun h5 => ?_) (fun h5 => ?_)
   ·have hoo : okO o = false := by simp [okO]; omega
    refine wc_seq (wc_region (wl_assign rfl rfl (wl_nil (qs_seq (wc_ret (qs_block_ret (qs_then_ret (qs_then_ret (qs_block_ret (qs_then_ret ?_))))))))))
    refine fin1 (.inr rfl) rfl rfl ?_
    exact ⟨_, rfl, few_bad ho hoo, hS1.pick [0] rfl⟩
   have hoo : okO o = true := by simp [okO]; omega
   refine wc_skip (qs_block_normal (qs_seq (wc_region (wl_move rfl rfl ?_))))
   refine wl_add rfl rfl (by omega) (by omega) rfl ?_
   refine wl_assign rfl rfl (wl_nil ?_)
   exact qs_round (L1 := [(0, _), (1, _), (5, intV ((i + 1 : Nat) : Int))]) (.cons rfl (.cons rfl (.cons rfl .nil))) (k1 := l.length - (i + 1)) (by omega) ⟨i + 1, rfl, rfl, hS1, by omega, fun j b hj hb => by by_cases e : j = i; (subst e; rw [ho] at hb; cases hb; exact hoo); exact hok j b (by omega) hb⟩
  refine wl_unwanted rfl rfl (decide_eq_false h3) rfl ?_
  refine wl_unwanted rfl rfl (decide_eq_false h3) rfl ?_
  refine wl_unwanted rfl rfl (decide_eq_false h3) rfl ?_
  refine wl_unwanted rfl rfl (decide_eq_false h3) rfl ?_
  refine wl_unwanted rfl rfl (decide_eq_false h3) rfl ?_
  refine wl_unwanted rfl rfl (decide_eq_false h3) rfl ?_
  refine wl_pickF rfl (decide_eq_false h3) rfl rfl ?_
  refine wl_move rfl rfl ?_
  refine wl_guard rfl rfl rfl ?_
  refine wl_move rfl rfl ?_
  refine wl_guard rfl rfl rfl ?_
  refine wl_move rfl rfl ?_
  refine wl_guard rfl rfl rfl ?_
  refine wl_indexAddr i rfl rfl (by first | rfl | omega) (by omega) es_22 rfl ?_
  refine wl_guard rfl rfl rfl ?_
  refine wl_fieldAddr rfl fo_33_4 rfl ?_
  refine wl_guard rfl rfl rfl ?_
  refine wl_load rfl ag_9 (by first | assumption) rfl ?_
  refine wl_guard rfl rfl rfl ?_
  refine wl_lenS Tryz.underlying9 rfl rfl ?_
  refine wl_guard rfl rfl rfl ?_
  refine wl_gtr rfl rfl rfl ?_
  refine wl_pickF rfl rfl rfl rfl ?_
  refine wl_nil (qs_seq ?_)
  refine wc_sub (L' := [(34, _), (0, _), (1, _), (5, _)]) (.cons rfl (.cons rfl (.cons rfl (.cons rfl .nil)))) ?_
  refine wc_condD rfl (fun h6 => ?_) (fun h6 => ?_)
  ·have hoo : okO o = false := by simp [okO]; omega
   refine wc_seq (wc_region (wl_assign rfl rfl (wl_nil (qs_seq (wc_ret (qs_block_ret (qs_then_ret (qs_then_ret (qs_block_ret (qs_then_ret ?_))))))))))
   refine fin1 (.inr rfl) rfl rfl ?_
   exact ⟨_, rfl, few_bad ho hoo, hS1.pick [0] rfl⟩
  have hoo : okO o = true := by simp [okO]; omega
  refine wc_skip (qs_block_normal (qs_seq (wc_region (wl_move rfl rfl ?_))))
  refine wl_add rfl rfl (by omega) (by omega) rfl ?_
  refine wl_assign rfl rfl (wl_nil ?_)
  exact qs_round (L1 := [(0, _), (1, _), (5, intV ((i + 1 : Nat) : Int))]) (.cons rfl (.cons rfl (.cons rfl .nil))) (k1 := l.length - (i + 1)) (by omega) ⟨i + 1, rfl, rfl, hS1, by omega, fun j b hj hb => by by_cases e : j = i; (subst e; rw [ho] at hb; cases hb; exact hoo); exact hok j b (by omega) hb⟩
 refine wc_exit (qs_then_exit (qs_then_exit (qs_block_exit (qs_seq (wc_seq (wc_region (wl_move rfl rfl ?_)))))))
 refine wl_lenL Tryz.underlying22 rfl rfl ?_
 refine wl_move rfl rfl ?_
 refine wl_leq rfl rfl rfl ?_
 refine wl_assign rfl rfl (wl_nil (qs_seq ?_))
 refine wc_sub (L' := [(4, _)]) (.cons rfl .nil) ?_
 refine wc_ret ?_
 refine fin1 (.inr rfl) rfl rfl ?_
 exact ⟨_, rfl, few_end hok hi (by omega), hS1.pick [0] rfl⟩
theorem shref_or {w : World} {p : Nat} {S : SS} {F : Th} (hS : Sat w [shT p S, F]) {N : Nat} (hI : ShI no0 N S) (hN : N ≤ 800000) (id : Int) : Calls Tryz.prog 32 #[ptrV p 0, intV id] w (Ret fun v w' => (∃ e, S.all id = none ∧ v = intV e ∧ Sat w' [shT p S, F]) ∨ (∃ x, S.all id = some x ∧ v = intV 0 ∧ Sat w' [shT p { S with all := up S.all id (some { x with refs := x.refs + 1 }) }, F])) := by
  refine (shref_sp hS hI hN id).mono fun e w h => h.mono fun v w h => ?_
  cases hid : S.all id with
  | none =>
    rw [hid] at h
    by_cases q : id = 0
    · exact .inl ⟨0, rfl, by rw [h.1, if_pos q], h.2⟩
    · exact .inl ⟨4, rfl, by rw [h.1, if_neg q], h.2⟩
  | some x => rw [hid] at h; exact .inr ⟨x, rfl, h.1, h.2⟩
theorem shunref_or {w : World} {p : Nat} {S : SS} {F : Th} (hS : Sat w [shT p S, F]) {N : Nat} (hI : ShI no0 N S) (hN : N ≤ 800000) (id : Int) : Calls Tryz.prog 26 #[ptrV p 0, intV id] w (Ret fun v w' => (∃ e, S.all id = none ∧ v = intV e ∧ (id ≠ 0 → e = 4) ∧ Sat w' [shT p S, F]) ∨ (∃ x, S.all id = some x ∧ v = intV 0 ∧ 1 < x.refs ∧ Sat w' [shT p { S with all := up S.all id (some { x with refs := x.refs - 1 }) }, F]) ∨ (∃ x S', S.all id = some x ∧ v = intV 0 ∧ x.refs = 1 ∧ DelS N S S' id ∧ Sat w' [shT p S', F])) := by
  refine (shunref_sp hS hI hN id).mono fun e w h => h.mono fun v w h => ?_
  cases hid : S.all id with
  | none =>
    rw [hid] at h
    by_cases q : id = 0
    · exact .inl ⟨0, rfl, by rw [h.1, if_pos q], fun q2 => absurd q q2, h.2⟩
    · exact .inl ⟨4, rfl, by rw [h.1, if_neg q], fun _ => rfl, h.2⟩
  | some x =>
    rw [hid] at h
    rcases h with ⟨h1, h2 | ⟨h2, S', h3, h4⟩⟩
    · exact .inr (.inl ⟨x, rfl, h1, h2⟩)
    · exact .inr (.inr ⟨x, S', rfl, h1, h2, h3, h4⟩)
theorem shbring_or {w : World} {p : Nat} {S : SS} {F : Th} (hS : Sat w [shT p S, F]) {N : Nat} (hI : ShI no0 N S) (hN : N ≤ 800000) (id : Int) : Calls Tryz.prog 24 #[ptrV p 0, intV id] w (Ret fun v w' => (S.all id = none ∧ v = .tuple #[intV 0, intV 4] ∧ Sat w' [shT p S, F]) ∨ (∃ x, S.all id = some x ∧ x.place = 1 ∧ v = .tuple #[intV x.at_, intV 0] ∧ Sat w' [shT p S, F]) ∨ (∃ x k S', S.all id = some x ∧ x.place ≠ 1 ∧ v = .tuple #[intV (k : Nat), intV 0] ∧ BrS N S S' id k x ∧ Sat w' [shT p S', F]) ∨ (∃ x, S.all id = some x ∧ x.place = 2 ∧ v = .tuple #[intV 0, intV 6] ∧ (∀ o ∈ S.fr, o ≠ none) ∧ usedN S.sl = S.sl.length ∧ Sat w' [shT p S, F])) := by
  refine (shbring_sp hS hI hN id).mono fun e w h => h.mono fun v w h => ?_
  cases hid : S.all id with
  | none => rw [hid] at h; exact .inl ⟨rfl, h.1, h.2⟩
  | some x =>
    rw [hid] at h
    rcases h with ⟨h1, h2, h3⟩ | ⟨k, S', h1, h2, h3, h4⟩ | ⟨h1, h2, h3, h4, h5⟩
    · exact .inr (.inl ⟨x, rfl, h1, h2, h3⟩)
    · exact .inr (.inr (.inl ⟨x, k, S', rfl, h1, h2, h3, h4⟩))
    · exact .inr (.inr (.inr ⟨x, rfl, h1, h2, h3, h4, h5⟩))
end Go.Proofs.YtnicmcdeoimhlaaGreat
