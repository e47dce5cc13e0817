/- sheets: lay, Fresh, Make, Adopt, Ref, Touch, Evict -/
import Derived.Test.YtnicmcdeoimhlaaGreatSh7
import Derived.Test.YtnicmcdeoimhlaaGreatRow
namespace Go.Proofs.YtnicmcdeoimhlaaGreat
open Go.RowKit M
set_option linter.unusedVariables false
/-- what anybody sees: references and contents -/
def vw (S : SS) : Int → Option (Int × Bs) := fun j => (S.all j).map fun x => (x.refs, x.pg)
/-- the frames that an operation took away were given up -/
structure ShF (S S' : SS) : Prop where
  tk : ∃ L, S'.taken = S.taken ++ L ∧ ∀ j x, S.all j = some x → x.place = 1 → x.at_ ∈ L ∨ ∃ y, S'.all j = some y ∧ y.place = 1 ∧ y.at_ = x.at_
  bud : S'.budget = S.budget
  slo : S'.slots = S.slots
  frn : S'.fr.length = S.fr.length
theorem ShF.refl (S : SS) : ShF S S := ⟨⟨[], by simp, fun j x h1 h2 => .inr ⟨x, h1, h2, rfl⟩⟩, rfl, rfl, rfl⟩
theorem ShG.f {S S' : SS} (h : ShG S S') : ShF S S' := ⟨h.tk, h.bud, h.slo, h.frn⟩
theorem ShG.vw {S S' : SS} (h : ShG S S') : vw S' = vw S := funext h.same
noncomputable def onF (S : SS) (j : Int) (k : Nat) (r : Int) (pg : Bs) (nx : Int) : SS := { S with all := up S.all j (some ⟨r, 1, (k : Nat), pg⟩), inn := up S.inn (k : Nat) (some j), fr := S.fr.set k (some pg), ck := S.ck.set k true, next := nx }
theorem vw_up {S : SS} {A : Int → Option ShE} {j : Int} {x : ShE} (hA : A = up S.all j (some x)) : (fun i => (A i).map fun x => (x.refs, x.pg)) = up (vw S) j (some (x.refs, x.pg)) := by
  subst hA
  funext i
  by_cases q : i = j
  · subst q; rw [up_self, up_self]; rfl
  · rw [up_ne q, up_ne q]; rfl
theorem vw_onF {S : SS} {j : Int} {k : Nat} {r : Int} {pg : Bs} {nx : Int} : vw (onF S j k r pg nx) = up (vw S) j (some (r, pg)) := vw_up rfl
/-- a sheet comes into a frame -/
theorem ShF.on {S S1 : SS} {j : Int} {k : Nat} {r : Int} {pg : Bs} {nx : Int} (h : ShG S S1) (hj : ∀ x, S.all j = some x → x.place ≠ 1) : ShF S (onF S1 j k r pg nx) := by
  obtain ⟨L, h1, h2⟩ := h.tk
  refine ⟨⟨L, h1, fun i x hx hp => ?_⟩, h.bud, h.slo, by show (S1.fr.set _ _).length = _; rw [List.length_set]; exact h.frn⟩
  have q : i ≠ j := fun q => hj x (q ▸ hx) hp
  rcases h2 i x hx hp with h3 | ⟨y, h3, h4, h5⟩
  · exact .inl h3
  · exact .inr ⟨y, by show up S1.all j _ i = _; rw [up_ne q]; exact h3, h4, h5⟩
/-- a new sheet -/
structure NewS (T : Nat) (S S' : SS) (id : Int) (pg : Bs) : Prop where
  inv : ShI no0 (T + 1) S'
  f : ShF S S'
  was : S.all id = none
  pos : 1 ≤ id
  is : vw S' = up (vw S) id (some (1, pg))
  at_ : ∃ x, S'.all id = some x ∧ x.place = 1
  nxt : S'.next = max S.next (id + 1)
theorem new_of {T : Nat} {S S1 : SS} {id : Int} {k : Nat} {pg : Bs} (h : ShI no0 T S) (hg : GetS (one id) (T + 1) k S S1) (hn : S.all id = none) (h1 : 1 ≤ id) (h2 : id + 1 ≤ 1099511627777 + (T + 1)) (hp : pg.length = 64) : NewS T S (onF S1 id k 1 pg (max S1.next (id + 1))) id pg := by
  have h3 := hg.inv.onFrame (j := id) (nx := max S1.next (id + 1)) (r := 1) (pg := pg) rfl hg.fr h1 (by omega) (by have := hg.inv.nx2; omega) (by omega) (by omega) hp
  refine ⟨h3.congr fun i _ => ⟨fun ⟨a, b⟩ => b a, False.elim⟩, ShF.on hg.go (fun x hx => by rw [hn] at hx; cases hx), hn, h1, ?_, ⟨_, up_self, rfl⟩, by show max S1.next _ = _; rw [hg.go.nxt]⟩
  rw [vw_onF, hg.go.vw]
theorem one_of {T : Nat} {S : SS} {id : Int} (h : ShI no0 T S) (hn : S.all id = none) : ShI (one id) T S := h.congr fun j hj => ⟨False.elim, fun q => hj (by rw [show j = id from q]; exact hn)⟩
/-- other references -/
theorem refs_of {T : Nat} {S : SS} {id r : Int} {x : ShE} (h : ShI no0 T S) (hx : S.all id = some x) (hr : 1 ≤ r ∧ r ≤ T + 2) : ShI no0 (T + 1) { S with all := up S.all id (some { x with refs := r }) } ∧ ShF S { S with all := up S.all id (some { x with refs := r }) } ∧ vw { S with all := up S.all id (some { x with refs := r }) } = up (vw S) id (some (r, x.pg)) := by
  refine ⟨(h.mono (by omega : T ≤ T + 1)).refs hx (by omega), ⟨⟨[], by simp, fun j y hy hp => .inr ?_⟩, rfl, rfl, rfl⟩, vw_up rfl⟩
  by_cases q : j = id
  · subst q; rw [hx] at hy; cases hy; exact ⟨_, up_self, hp, rfl⟩
  · exact ⟨y, by show up S.all id _ j = _; rw [up_ne q]; exact hy, hp, rfl⟩
theorem touch_same {T : Nat} {S : SS} {id : Int} {x : ShE} (h : ShI no0 T S) (hx : S.all id = some x) (hp : x.place = 1) : (0 ≤ x.at_ ∧ x.at_ < (S.ck.length : Int)) ∧ S.ck.set x.at_.toNat true = S.ck := by
  have h1 := h.frc (fun q => q) hx hp
  obtain ⟨h2, h3⟩ := frAt_lt h1
  obtain ⟨_, h4⟩ := frAt_some h1
  refine ⟨⟨h2, by rw [h.ck, List.length_map]; omega⟩, ?_⟩
  refine set_same ?_
  rw [h.ck, List.getElem?_map, h4]; rfl
theorem fill_got {fl : List (Option Bs)} {k : Nat} {z pg : Bs} (hk : k < fl.length) : frSet (fl.set k (some z)) (k : Int) pg = fl.set k (some pg) := by
  have h : frAt (fl.set k (some z)) (k : Int) = some z := by unfold frAt; rw [if_pos (by omega), Int.toNat_natCast, List.getElem?_set_self hk]
  rw [frSet_some h, Int.toNat_natCast, List.set_set]
set_option maxRecDepth 100000 in
set_option maxHeartbeats 1600000 in
theorem shlay_sp {w : World} {p : Nat} {S : SS} {F : Th} (hS : Sat w [shT p S, F]) {N : Nat} (hI : ShI no0 N S) (hN : N ≤ 800000) {id : Int} {page : Bs} (hid : S.all id = none) (h1 : 1 ≤ id) (h2 : id + 1 ≤ 1099511627777 + (N + 1)) (hpg : page.length = 64) :
    Calls Tryz.prog 73 #[ptrV p 0, intV id, strV page] w (Ret fun v w' => (v = intV 6 ∧ (∀ o ∈ S.fr, o ≠ none) ∧ usedN S.sl = S.sl.length ∧ Sat w' [shT p S, F]) ∨ (v = intV 0 ∧ ∃ S', NewS N S S' id page ∧ Sat w' [shT p S', F])) := by
 refine calls_enter Tryz.func73 rfl Tryz.ntmps73 rfl ?_
 refine wc_seq (wc_region (wl_assign rfl rfl (wl_nil (qs_seq (wc_seq (wc_region (wl_move rfl rfl ?_)))))))
 have hC1 := hS.split [0] [true, false] rfl; dsimp only [selF, pickA, nthA, List.cons_append, List.nil_append] at hC1
 refine wl_call cal_63 rfl (shget_sp hC1 (E := one id) (one_of hI hid) hN) rfl ?_
 rintro e w1 ⟨_, rfl, (⟨rfl, hall, hfull, hS1⟩ | ⟨k, S1, rfl, hg, hS1⟩)⟩
 ·refine ⟨_, rfl, ?_⟩
  replace hS1 := hS1.join rfl; dsimp only [List.dropLast, List.cons_append, List.nil_append] at hS1; clear hC1
  refine wl_move rfl rfl (wl_extract rfl rfl rfl (wl_extract rfl rfl rfl (wl_assign rfl rfl (wl_assign rfl rfl (wl_nil (qs_seq ?_))))))
  refine wc_sub (L' := [(8, _), (7, _), (6, _), (0, _), (1, _), (2, _)]) (.cons rfl (.cons rfl (.cons rfl (.cons rfl (.cons rfl (.cons rfl .nil)))))) ?_
  refine wc_seq (wc_seq (wc_region (wl_move rfl rfl ?_)))
  refine wl_not rfl rfl ?_
  refine wl_nil (qs_seq ?_)
  refine wc_cond rfl (fun h2 => ?_) (fun h2 => ?_)
  ·refine wc_seq (wc_region (wl_assign rfl rfl (wl_nil (qs_seq (wc_ret (qs_then_ret ?_))))))
   refine fin1 (.inr rfl) rfl rfl ?_
   exact ⟨_, rfl, .inl ⟨rfl, hall, hfull, hS1.pick [0, 1] rfl⟩⟩
  exact absurd h2 (by simp)
 refine ⟨_, rfl, ?_⟩
 replace hS1 := hS1.join rfl; dsimp only [List.dropLast, List.cons_append, List.nil_append] at hS1; clear hC1
 refine wl_move rfl rfl (wl_extract rfl rfl rfl (wl_extract rfl rfl rfl (wl_assign rfl rfl (wl_assign rfl rfl (wl_nil (qs_seq ?_))))))
 refine wc_sub (L' := [(8, _), (7, _), (6, _), (0, _), (1, _), (2, _)]) (.cons rfl (.cons rfl (.cons rfl (.cons rfl (.cons rfl (.cons rfl .nil)))))) ?_
 refine wc_seq (wc_seq (wc_region (wl_move rfl rfl ?_)))
 refine wl_not rfl rfl ?_
 refine wl_nil (qs_seq ?_)
 refine wc_cond rfl (fun h3 => ?_) (fun h3 => ?_)
 ·exact absurd h3 (by simp)
 refine wc_skip (qs_seq (wc_seq ?_))
 obtain ⟨ba, bi, fp, sp, kp, ac, cc, at2, ct, hSo4⟩ := shT_open (hS1.pick [0, 1] rfl)
 refine wc_region (wl_move rfl rfl (wl_nilCheck rfl rfl ?_))
 refine wl_fieldAddr rfl fo_65_3 rfl ?_
 refine wl_load rfl ag_58 (by first | assumption | exact hSo4.cell 0 rfl rfl) rfl ?_
 refine wl_move rfl rfl (wl_move rfl rfl ?_)
 have hkl : k < S1.fr.length := (List.getElem?_eq_some_iff.1 hg.fr).1
 have hfs : frSet (gotF S1 k).fr (k : Int) (page) = S1.fr.set k (some (page)) := fill_got hkl
 have hC5 := hSo4.split [4] [false, false, false, false, true, false, false, false, false] rfl; dsimp only [selF, pickA, nthA, List.cons_append, List.nil_append] at hC5
 refine wl_call cal_64 rfl (frfill_sp hC5 (k : Int) (page) hpg) rfl ?_
 rintro e w5 ⟨_, rfl, _, rfl, hS5⟩; refine ⟨_, rfl, ?_⟩
 replace hS5 := hS5.join rfl; dsimp only [List.dropLast, List.cons_append, List.nil_append] at hS5; clear hC5
 clear hSo4
 rw [hfs] at hS5
 refine wl_nil (qs_seq ?_)
 refine wc_sub (L' := [(7, _), (6, _), (0, _), (1, _)]) (.cons rfl (.cons rfl (.cons rfl (.cons rfl .nil)))) ?_
 refine wc_seq ?_
 have hS6 := hS5.drew
 refine wc_draw [0, 1, 2, 3, 4, 5, 6, 7, 8, 9, 10, 11, 12, 13, 14, 15, 16, 17, 18] [13, 15, 16, 18] mix (by kernel_rfl) ?_
 refine vc_p rfl rfl rfl (fun _ => (ev_move rfl)) ?_
 refine vc_p rfl rfl rfl (fun _ => (ev_nilCheck rfl)) ?_
 refine vc_p rfl rfl rfl (fun _ => (ev_fieldAddr rfl fo_65_0)) ?_
 refine vc_q rfl rfl rfl (ev_load rfl ag_56 (by first | assumption | exact hS6.cell 1 rfl rfl)) ?_
 refine vc_p rfl rfl rfl (fun _ => (ev_move rfl)) ?_
 refine vc_p rfl rfl rfl (fun _ => (ev_move rfl)) ?_
 refine vc_p rfl rfl rfl (fun _ => (ev_nilCheck rfl)) ?_
 refine vc_p rfl rfl rfl (fun _ => (ev_fieldAddr rfl fo_65_1)) ?_
 refine vc_q rfl rfl rfl (ev_load rfl ag_57 (by first | assumption | exact hS6.cell 1 rfl rfl)) ?_
 refine vc_p rfl rfl rfl (fun _ => (ev_move rfl)) ?_
 refine vc_p rfl rfl rfl (fun _ => (ev_move rfl)) ?_
 refine vc_p rfl rfl rfl (fun _ => (ev_buildS rfl pl_76_0_1_2 asz_76 zr_76 rfl)) ?_
 refine vc_p rfl rfl rfl (fun _ => (ev_move rfl)) ?_
 refine vc_s rfl rfl rfl rfl rfl rfl ?_
 refine wl_mapEntry2 (k := id) 2 hS6 keysInt Tryz.underlying56 rfl rfl rfl zr_76 rfl ?_
 intro u7 c7 w7 hS7; dsimp only [List.set] at hS7
 clear hS6
 refine vc_e (.skip (by kernel_rfl) (.skip (by kernel_rfl) .nil)) ?_
 refine vc_p rfl rfl rfl (fun _ => (ev_extract rfl rfl)) ?_
 refine vc_s rfl rfl rfl rfl rfl rfl ?_
 have hsv8 : Value.agg #[intV 1, intV 1, intV (k : Nat), strV []] = shV ⟨1, 1, (k : Nat), page⟩ := rfl
 refine wl_entryStore2 (v := Value.agg #[intV 1, intV 1, intV (k : Nat), strV []]) 2 hS7 keysInt rfl rfl rfl rfl ?_
 intro w8 hS8a; dsimp only [List.set] at hS8a; have hS8 := hS8a; rw [hsv8, aG_up] at hS8
 clear hS7
 refine vc_e0 (.skip (by kernel_rfl) (.skip (by kernel_rfl) .nil)) ?_
 refine vc_s rfl rfl rfl rfl rfl rfl ?_
 refine wl_mapEntry2 (k := (k : Int)) 3 hS8 keysInt Tryz.underlying57 rfl rfl rfl zr_3 rfl ?_
 intro u9 c9 w9 hS9; dsimp only [List.set] at hS9
 clear hS8
 refine vc_e (.skip (by kernel_rfl) (.skip (by kernel_rfl) .nil)) ?_
 refine vc_p rfl rfl rfl (fun _ => (ev_extract rfl rfl)) ?_
 refine vc_s rfl rfl rfl rfl rfl rfl ?_
 refine wl_entryStore2 (v := intV id) 3 hS9 keysInt rfl rfl rfl rfl ?_
 intro w10 hS10a; dsimp only [List.set] at hS10a; have hS10 := hS10a; rw [gI_up] at hS10
 clear hS9
 refine vc_e0 (.skip (by kernel_rfl) (.skip (by kernel_rfl) .nil)) ?_
 refine VC.nil (qs_seq ?_)
 refine wc_sub (L' := [(6, _), (0, _), (1, _)]) (.cons rfl (.cons rfl (.cons rfl .nil))) ?_
 refine wc_seq (wc_region (wl_move rfl rfl (wl_move rfl rfl (wl_nilCheck rfl rfl ?_))))
 refine wl_fieldAddr rfl fo_65_8 rfl ?_
 refine wl_load rfl ag_3 (by first | assumption | exact hS10.cell 1 rfl rfl) rfl ?_
 refine wl_move rfl rfl ?_
 refine wl_add rfl rfl (by omega) (by omega) rfl ?_
 refine wl_maxI rfl rfl rfl ?_
 refine wl_nilCheck rfl rfl ?_
 refine wl_fieldAddr rfl fo_65_8 rfl ?_
 first | (refine wl_store hS10 rfl rfl sz_3 (by first | rfl | assumption | exact hS10.own_one 4 rfl | exact hS10.own_one 7 rfl) (i := 1) rfl (by first | decide | exact Nat.le_of_ble_eq_true rfl | (simp; done) | omega) ?_)
 intro w11 hS12; dsimp only [List.set] at hS12
 clear hS10
 refine wl_nil (qs_seq ?_)
 refine wc_sub (L' := [(6, _)]) (.cons rfl .nil) ?_
 refine wc_seq (wc_region (wl_assign rfl rfl (wl_nil (qs_seq (wc_ret ?_)))))
 refine fin1 (.inr rfl) rfl rfl ?_
 exact ⟨_, rfl, .inr ⟨rfl, _, new_of hI hg hid h1 h2 hpg, shT_shut (S := onF S1 id k 1 page (max S1.next (id + 1))) (hS12.pick [1, 2, 3, 4, 0, 5, 6, 7, 8] rfl)⟩⟩
set_option maxRecDepth 100000 in
theorem shfresh_sp {w : World} {p : Nat} {S : SS} {F : Th} (hS : Sat w [shT p S, F]) {N : Nat} (hI : ShI no0 N S) (hN : N ≤ 800000) {page : Bs} (hpg : page.length = 64) :
    Calls Tryz.prog 38 #[ptrV p 0, strV page] w (Ret fun v w' => (v = .tuple #[intV 0, intV 6] ∧ (∀ o ∈ S.fr, o ≠ none) ∧ usedN S.sl = S.sl.length ∧ Sat w' [shT p S, F]) ∨ (v = .tuple #[intV S.next, intV 0] ∧ ∃ S', NewS N S S' S.next page ∧ Sat w' [shT p S', F])) := by
 have hnn : S.all S.next = none := by cases hq : S.all S.next with | none => rfl | some x => (have := (hI.ent hq).2.1; omega)
 refine calls_enter Tryz.func38 rfl Tryz.ntmps38 rfl ?_
 refine wc_seq (wc_region (wl_assign rfl rfl (wl_assign rfl rfl (wl_nil (qs_seq (wc_seq (wc_seq (wc_region (wl_move rfl rfl ?_)))))))))
 refine wl_lenS Tryz.underlying9 rfl rfl ?_
 refine wl_neq rfl rfl rfl ?_
 refine wl_nil (qs_seq ?_)
 refine wc_condD rfl (fun h1 => ?_) (fun h1 => ?_)
 ·exact absurd h1 (by rw [hpg]; decide)
 refine wc_skip (qs_seq (wc_seq ?_))
 obtain ⟨ba, bi, fp, sp, kp, ac, cc, at2, ct, hSo2⟩ := shT_open (hS.pick [0, 1] rfl)
 refine wc_region (wl_move rfl rfl (wl_nilCheck rfl rfl ?_))
 refine wl_fieldAddr rfl fo_65_8 rfl ?_
 refine wl_load rfl ag_3 (by first | assumption | exact hSo2.cell 0 rfl rfl) rfl ?_
 refine wl_assign rfl rfl (wl_nil ?_)
 have hS3 := shT_shut (hSo2.pick [0, 1, 2, 3, 4, 5, 6, 7, 8] rfl)
 refine qs_seq ?_
 refine wc_sub (L' := [(6, _), (5, _), (4, _), (0, _), (1, _)]) (.cons rfl (.cons rfl (.cons rfl (.cons rfl (.cons rfl .nil))))) ?_
 refine wc_seq (wc_seq (wc_region (wl_move rfl rfl (wl_move rfl rfl (wl_move rfl rfl ?_)))))
 have hC4 := hS3.split [0] [true, false] rfl; dsimp only [selF, pickA, nthA, List.cons_append, List.nil_append] at hC4
 refine wl_call cal_73 rfl (shlay_sp hC4 hI hN (id := S.next) (page := page) hnn hI.nx1 (by have := hI.nx2; omega) hpg) rfl ?_
 rintro e w4 ⟨_, rfl, (⟨rfl, hall, hfull, hS4⟩ | ⟨rfl, S2, hn, hS4⟩)⟩
 ·refine ⟨_, rfl, ?_⟩
  replace hS4 := hS4.join rfl; dsimp only [List.dropLast, List.cons_append, List.nil_append] at hS4; clear hC4
  clear hS3
  refine wl_assign rfl rfl (wl_nil (qs_seq (wc_seq (wc_region (wl_move rfl rfl ?_)))))
  refine wl_neq rfl rfl rfl ?_
  refine wl_nil (qs_seq ?_)
  refine wc_sub (L' := [(20, _), (7, _), (6, _), (5, _), (4, _)]) (.cons rfl (.cons rfl (.cons rfl (.cons rfl (.cons rfl .nil))))) ?_
  refine wc_condD rfl (fun h5 => ?_) (fun h5 => ?_)
  ·refine wc_seq (wc_region (wl_move rfl rfl (wl_assign rfl rfl (wl_assign rfl rfl (wl_nil (qs_seq (wc_ret (qs_then_ret ?_))))))))
   refine fin2 (.inr rfl) rfl rfl rfl ?_
   exact ⟨_, rfl, .inl ⟨rfl, hall, hfull, hS4.pick [0, 1] rfl⟩⟩
  exact absurd (by decide) h5
 refine ⟨_, rfl, ?_⟩
 replace hS4 := hS4.join rfl; dsimp only [List.dropLast, List.cons_append, List.nil_append] at hS4; clear hC4
 clear hS3
 refine wl_assign rfl rfl (wl_nil (qs_seq (wc_seq (wc_region (wl_move rfl rfl ?_)))))
 refine wl_neq rfl rfl rfl ?_
 refine wl_nil (qs_seq ?_)
 refine wc_sub (L' := [(20, _), (7, _), (6, _), (5, _), (4, _)]) (.cons rfl (.cons rfl (.cons rfl (.cons rfl (.cons rfl .nil))))) ?_
 refine wc_condD rfl (fun h6 => ?_) (fun h6 => ?_)
 ·exact absurd h6 (by simp)
 refine wc_skip (qs_seq (wc_seq (wc_region (wl_move rfl rfl (wl_assign rfl rfl (wl_assign rfl rfl (wl_nil (qs_seq (wc_ret ?_)))))))))
 refine fin2 (.inr rfl) rfl rfl rfl ?_
 exact ⟨_, rfl, .inr ⟨rfl, _, hn, hS4.pick [0, 1] rfl⟩⟩
def zer : Bs := [0, 0, 0, 0, 0, 0, 0, 0, 0, 0, 0, 0, 0, 0, 0, 0, 0, 0, 0, 0, 0, 0, 0, 0, 0, 0, 0, 0, 0, 0, 0, 0, 0, 0, 0, 0, 0, 0, 0, 0, 0, 0, 0, 0, 0, 0, 0, 0, 0, 0, 0, 0, 0, 0, 0, 0, 0, 0, 0, 0, 0, 0, 0, 0]
set_option maxRecDepth 100000 in
theorem shmake_sp {w : World} {p : Nat} {S : SS} {F : Th} (hS : Sat w [shT p S, F]) {N : Nat} (hI : ShI no0 N S) (hN : N ≤ 800000) {page : Bs} (hpg : page.length = 64) :
    Calls Tryz.prog 27 #[ptrV p 0, strV page] w (Ret fun v w' => (page = zer ∧ v = .tuple #[intV 0, intV 0] ∧ Sat w' [shT p S, F]) ∨ (page ≠ zer ∧ ((v = .tuple #[intV 0, intV 6] ∧ (∀ o ∈ S.fr, o ≠ none) ∧ usedN S.sl = S.sl.length ∧ Sat w' [shT p S, F]) ∨ (v = .tuple #[intV S.next, intV 0] ∧ ∃ S', NewS N S S' S.next page ∧ Sat w' [shT p S', F])))) := by
 refine calls_enter Tryz.func27 rfl Tryz.ntmps27 rfl ?_
 refine wc_seq (wc_region (wl_assign rfl rfl (wl_assign rfl rfl (wl_nil (qs_seq (wc_seq (wc_seq (wc_region (wl_move rfl rfl ?_)))))))))
 refine wl_eqlS rfl rfl rfl ?_
 refine wl_nil (qs_seq ?_)
 refine wc_condD rfl (fun h1 => ?_) (fun h1 => ?_)
 ·have hz : page = zer := h1
  refine wc_seq (wc_region (wl_assign rfl rfl (wl_assign rfl rfl (wl_nil (qs_seq (wc_ret (qs_then_ret ?_)))))))
  refine fin2 (.inr rfl) rfl rfl rfl ?_
  exact ⟨_, rfl, .inl ⟨hz, rfl, hS.pick [0, 1] rfl⟩⟩
 have hz : page ≠ zer := h1
 refine wc_skip (qs_seq (wc_seq (wc_region (wl_move rfl rfl (wl_move rfl rfl ?_)))))
 have hC2 := hS.split [0] [true, false] rfl; dsimp only [selF, pickA, nthA, List.cons_append, List.nil_append] at hC2
 refine wl_call cal_38 rfl (shfresh_sp hC2 hI hN hpg) rfl ?_
 rintro e w2 ⟨_, rfl, (⟨rfl, hall, hfull, hS2⟩ | ⟨rfl, S2, hn, hS2⟩)⟩
 ·refine ⟨_, rfl, ?_⟩
  replace hS2 := hS2.join rfl; dsimp only [List.dropLast, List.cons_append, List.nil_append] at hS2; clear hC2
  refine wl_extract rfl rfl rfl (wl_extract rfl rfl rfl (wl_assign rfl rfl (wl_assign rfl rfl (wl_nil (qs_seq ?_)))))
  refine wc_sub (L' := [(5, _), (4, _)]) (.cons rfl (.cons rfl .nil)) ?_
  refine wc_ret ?_
  refine fin2 (.inr rfl) rfl rfl rfl ?_
  exact ⟨_, rfl, .inr ⟨hz, .inl ⟨rfl, hall, hfull, hS2.pick [0, 1] rfl⟩⟩⟩
 refine ⟨_, rfl, ?_⟩
 replace hS2 := hS2.join rfl; dsimp only [List.dropLast, List.cons_append, List.nil_append] at hS2; clear hC2
 refine wl_extract rfl rfl rfl (wl_extract rfl rfl rfl (wl_assign rfl rfl (wl_assign rfl rfl (wl_nil (qs_seq ?_)))))
 refine wc_sub (L' := [(5, _), (4, _)]) (.cons rfl (.cons rfl .nil)) ?_
 refine wc_ret ?_
 refine fin2 (.inr rfl) rfl rfl rfl ?_
 exact ⟨_, rfl, .inr ⟨hz, .inr ⟨rfl, _, hn, hS2.pick [0, 1] rfl⟩⟩⟩
set_option maxRecDepth 100000 in
theorem shadopt_sp {w : World} {p : Nat} {S : SS} {F : Th} (hS : Sat w [shT p S, F]) {N : Nat} (hI : ShI no0 N S) (hN : N ≤ 800000) {id : Int} {page : Bs} (hpg : page.length = 64) :
    Calls Tryz.prog 37 #[ptrV p 0, intV id, strV page] w (Ret fun v w' => (∃ e, v = intV e ∧ e ≠ 0 ∧ Sat w' [shT p S, F]) ∨ (v = intV 0 ∧ ∃ S', NewS N S S' id page ∧ Sat w' [shT p S', F])) := by
 cases hid : S.all id with
 | none =>
  refine calls_enter Tryz.func37 rfl Tryz.ntmps37 rfl ?_
  refine wc_seq (wc_region (wl_assign rfl rfl (wl_nil (qs_seq (wc_seq (wc_seq (wc_region (wl_move rfl rfl ?_))))))))
  refine wl_lss rfl rfl rfl ?_
  refine wl_move rfl rfl ?_
  refine wl_splitD 11 rfl (fun h1 => ?_) (fun h1 => ?_)
  ·refine wl_unwanted rfl rfl (decide_eq_true h1) rfl ?_
   refine wl_unwanted rfl rfl (decide_eq_true h1) rfl ?_
   refine wl_pickT rfl (decide_eq_true h1) rfl rfl ?_
   refine wl_move rfl rfl ?_
   refine wl_unwanted rfl rfl rfl rfl ?_
   refine wl_unwanted rfl rfl rfl rfl ?_
   refine wl_unwanted rfl rfl rfl rfl ?_
   refine wl_pickT rfl rfl rfl rfl ?_
   refine wl_nil (qs_seq ?_)
   refine wc_sub (L' := [(19, _), (6, _), (0, _), (1, _), (2, _)]) (.cons rfl (.cons rfl (.cons rfl (.cons rfl (.cons rfl .nil))))) ?_
   refine wc_condT rfl ?_
   refine wc_seq (wc_region (wl_assign rfl rfl (wl_nil (qs_seq (wc_ret (qs_then_ret ?_))))))
   refine fin1 (.inr rfl) rfl rfl ?_
   exact ⟨_, rfl, .inl ⟨_, rfl, by omega, hS.pick [0, 1] rfl⟩⟩
  refine wl_guard rfl rfl (decide_eq_false h1) ?_
  refine wl_move rfl rfl ?_
  refine wl_guard rfl rfl (decide_eq_false h1) ?_
  refine wl_gtr rfl rfl rfl ?_
  refine wl_pickF rfl (decide_eq_false h1) rfl rfl ?_
  refine wl_move rfl rfl ?_
  refine wl_splitD 15 rfl (fun h2 => ?_) (fun h2 => ?_)
  ·refine wl_unwanted rfl rfl (decide_eq_true h2) rfl ?_
   refine wl_unwanted rfl rfl (decide_eq_true h2) rfl ?_
   refine wl_unwanted rfl rfl (decide_eq_true h2) rfl ?_
   refine wl_pickT rfl (decide_eq_true h2) rfl rfl ?_
   refine wl_nil (qs_seq ?_)
   refine wc_sub (L' := [(19, _), (6, _), (0, _), (1, _), (2, _)]) (.cons rfl (.cons rfl (.cons rfl (.cons rfl (.cons rfl .nil))))) ?_
   refine wc_condT rfl ?_
   refine wc_seq (wc_region (wl_assign rfl rfl (wl_nil (qs_seq (wc_ret (qs_then_ret ?_))))))
   refine fin1 (.inr rfl) rfl rfl ?_
   exact ⟨_, rfl, .inl ⟨_, rfl, by omega, hS.pick [0, 1] rfl⟩⟩
  refine wl_guard rfl rfl (decide_eq_false h2) ?_
  refine wl_move rfl rfl ?_
  refine wl_guard rfl rfl (decide_eq_false h2) ?_
  refine wl_lenS Tryz.underlying9 rfl rfl ?_
  refine wl_guard rfl rfl (decide_eq_false h2) ?_
  refine wl_neq rfl rfl rfl ?_
  refine wl_pickF rfl (decide_eq_false h2) rfl rfl ?_
  refine wl_nil (qs_seq ?_)
  refine wc_sub (L' := [(19, _), (6, _), (0, _), (1, _), (2, _)]) (.cons rfl (.cons rfl (.cons rfl (.cons rfl (.cons rfl .nil))))) ?_
  refine wc_condD rfl (fun h3 => ?_) (fun h3 => ?_)
  ·refine wc_seq (wc_region (wl_assign rfl rfl (wl_nil (qs_seq (wc_ret (qs_then_ret ?_))))))
   refine fin1 (.inr rfl) rfl rfl ?_
   exact ⟨_, rfl, .inl ⟨_, rfl, by omega, hS.pick [0, 1] rfl⟩⟩
  refine wc_skip (qs_seq (wc_seq (wc_seq ?_)))
  obtain ⟨ba, bi, fp, sp, kp, ac, cc, at2, ct, hSo4⟩ := shT_open (hS.pick [0, 1] rfl)
  refine wc_region (wl_move rfl rfl (wl_nilCheck rfl rfl ?_))
  refine wl_fieldAddr rfl fo_65_0 rfl ?_
  refine wl_load rfl ag_56 (by first | assumption | exact hSo4.cell 0 rfl rfl) rfl ?_
  refine wl_move rfl rfl ?_
  refine wl_lookupOk (k := id) 1 hSo4 keysInt Tryz.underlying56 rfl rfl rfl zr_76 (u := (.agg #[intV 0, intV 0, intV 0, strV []])) (g := false) (aG_none hid) (aG_none2 hid) rfl ?_
  refine wl_move rfl rfl (wl_extract rfl rfl rfl (wl_extract rfl rfl rfl ?_))
  refine wl_alloc hSo4 zr_76 rfl rfl ?_
  intro b5 w5 hS5
  clear hSo4
  first | (refine wl_storeA hS5 rfl rfl sz_76 rfl (by first | rfl | (simp [allOne, Value.oneCell']; done) | assumption | exact hone) (i := 0) rfl (by first | decide | exact Nat.le_of_ble_eq_true rfl | (simp; done) | omega) ?_) | (refine wl_storeA hS5 rfl rfl sz_76 rfl (by first | rfl | (simp [allOne, Value.oneCell']; done) | assumption | exact hone) (i := 1) rfl (by first | decide | exact Nat.le_of_ble_eq_true rfl | (simp; done) | omega) ?_)
  intro w6 hS7; dsimp only [List.set] at hS7
  clear hS5
  refine wl_assign rfl rfl (wl_nil ?_)
  have hS8 := shT_shut (hS7.pick [1, 2, 3, 4, 5, 6, 7, 8, 9] rfl)
  refine qs_seq ?_
  refine wc_sub (L' := [(8, _), (6, _), (0, _), (1, _), (2, _)]) (.cons rfl (.cons rfl (.cons rfl (.cons rfl (.cons rfl .nil))))) ?_
  refine wc_seq (wc_region (wl_move rfl rfl (wl_nil (qs_seq ?_))))
  refine wc_cond rfl (fun h9 => ?_) (fun h9 => ?_)
  ·exact absurd h9 (by simp)
  refine wc_skip (qs_seq (wc_seq (wc_region (wl_move rfl rfl (wl_move rfl rfl (wl_move rfl rfl ?_))))))
  have hC10 := hS8.split [0] [true, false] rfl; dsimp only [selF, pickA, nthA, List.cons_append, List.nil_append] at hC10
  refine wl_call cal_73 rfl (shlay_sp hC10 hI hN (id := id) (page := page) hid (by omega) (by omega) hpg) rfl ?_
  rintro e w10 ⟨_, rfl, (⟨rfl, hall, hfull, hS10⟩ | ⟨rfl, S2, hn, hS10⟩)⟩
  ·refine ⟨_, rfl, ?_⟩
   replace hS10 := hS10.join rfl; dsimp only [List.dropLast, List.cons_append, List.nil_append] at hS10; clear hC10
   clear hS8
   refine wl_assign rfl rfl (wl_nil (qs_seq (wc_ret ?_)))
   refine fin1 (.inr rfl) rfl rfl ?_
   exact ⟨_, rfl, .inl ⟨_, rfl, by omega, hS10.pick [0, 1] rfl⟩⟩
  refine ⟨_, rfl, ?_⟩
  replace hS10 := hS10.join rfl; dsimp only [List.dropLast, List.cons_append, List.nil_append] at hS10; clear hC10
  clear hS8
  refine wl_assign rfl rfl (wl_nil (qs_seq (wc_ret ?_)))
  refine fin1 (.inr rfl) rfl rfl ?_
  exact ⟨_, rfl, .inr ⟨rfl, _, hn, hS10.pick [0, 1] rfl⟩⟩
 | some x =>
  refine calls_enter Tryz.func37 rfl Tryz.ntmps37 rfl ?_
  refine wc_seq (wc_region (wl_assign rfl rfl (wl_nil (qs_seq (wc_seq (wc_seq (wc_region (wl_move rfl rfl ?_))))))))
  refine wl_lss rfl rfl rfl ?_
  refine wl_move rfl rfl ?_
  refine wl_splitD 11 rfl (fun h1 => ?_) (fun h1 => ?_)
  ·refine wl_unwanted rfl rfl (decide_eq_true h1) rfl ?_
   refine wl_unwanted rfl rfl (decide_eq_true h1) rfl ?_
   refine wl_pickT rfl (decide_eq_true h1) rfl rfl ?_
   refine wl_move rfl rfl ?_
   refine wl_unwanted rfl rfl rfl rfl ?_
   refine wl_unwanted rfl rfl rfl rfl ?_
   refine wl_unwanted rfl rfl rfl rfl ?_
   refine wl_pickT rfl rfl rfl rfl ?_
   refine wl_nil (qs_seq ?_)
   refine wc_sub (L' := [(19, _), (6, _), (0, _), (1, _), (2, _)]) (.cons rfl (.cons rfl (.cons rfl (.cons rfl (.cons rfl .nil))))) ?_
   refine wc_condT rfl ?_
   refine wc_seq (wc_region (wl_assign rfl rfl (wl_nil (qs_seq (wc_ret (qs_then_ret ?_))))))
   refine fin1 (.inr rfl) rfl rfl ?_
   exact ⟨_, rfl, .inl ⟨_, rfl, by omega, hS.pick [0, 1] rfl⟩⟩
  refine wl_guard rfl rfl (decide_eq_false h1) ?_
  refine wl_move rfl rfl ?_
  refine wl_guard rfl rfl (decide_eq_false h1) ?_
  refine wl_gtr rfl rfl rfl ?_
  refine wl_pickF rfl (decide_eq_false h1) rfl rfl ?_
  refine wl_move rfl rfl ?_
  refine wl_splitD 15 rfl (fun h2 => ?_) (fun h2 => ?_)
  ·refine wl_unwanted rfl rfl (decide_eq_true h2) rfl ?_
   refine wl_unwanted rfl rfl (decide_eq_true h2) rfl ?_
   refine wl_unwanted rfl rfl (decide_eq_true h2) rfl ?_
   refine wl_pickT rfl (decide_eq_true h2) rfl rfl ?_
   refine wl_nil (qs_seq ?_)
   refine wc_sub (L' := [(19, _), (6, _), (0, _), (1, _), (2, _)]) (.cons rfl (.cons rfl (.cons rfl (.cons rfl (.cons rfl .nil))))) ?_
   refine wc_condT rfl ?_
   refine wc_seq (wc_region (wl_assign rfl rfl (wl_nil (qs_seq (wc_ret (qs_then_ret ?_))))))
   refine fin1 (.inr rfl) rfl rfl ?_
   exact ⟨_, rfl, .inl ⟨_, rfl, by omega, hS.pick [0, 1] rfl⟩⟩
  refine wl_guard rfl rfl (decide_eq_false h2) ?_
  refine wl_move rfl rfl ?_
  refine wl_guard rfl rfl (decide_eq_false h2) ?_
  refine wl_lenS Tryz.underlying9 rfl rfl ?_
  refine wl_guard rfl rfl (decide_eq_false h2) ?_
  refine wl_neq rfl rfl rfl ?_
  refine wl_pickF rfl (decide_eq_false h2) rfl rfl ?_
  refine wl_nil (qs_seq ?_)
  refine wc_sub (L' := [(19, _), (6, _), (0, _), (1, _), (2, _)]) (.cons rfl (.cons rfl (.cons rfl (.cons rfl (.cons rfl .nil))))) ?_
  refine wc_condD rfl (fun h3 => ?_) (fun h3 => ?_)
  ·refine wc_seq (wc_region (wl_assign rfl rfl (wl_nil (qs_seq (wc_ret (qs_then_ret ?_))))))
   refine fin1 (.inr rfl) rfl rfl ?_
   exact ⟨_, rfl, .inl ⟨_, rfl, by omega, hS.pick [0, 1] rfl⟩⟩
  refine wc_skip (qs_seq (wc_seq (wc_seq ?_)))
  obtain ⟨ba, bi, fp, sp, kp, ac, cc, at2, ct, hSo4⟩ := shT_open (hS.pick [0, 1] rfl)
  refine wc_region (wl_move rfl rfl (wl_nilCheck rfl rfl ?_))
  refine wl_fieldAddr rfl fo_65_0 rfl ?_
  refine wl_load rfl ag_56 (by first | assumption | exact hSo4.cell 0 rfl rfl) rfl ?_
  refine wl_move rfl rfl ?_
  refine wl_lookupOk (k := id) 1 hSo4 keysInt Tryz.underlying56 rfl rfl rfl zr_76 (u := (.agg #[intV x.refs, intV x.place, intV x.at_, strV (fmE x)])) (g := true) (aG_some hid) (aG_some2 hid) rfl ?_
  refine wl_move rfl rfl (wl_extract rfl rfl rfl (wl_extract rfl rfl rfl ?_))
  refine wl_alloc hSo4 zr_76 rfl rfl ?_
  intro b5 w5 hS5
  clear hSo4
  first | (refine wl_storeA hS5 rfl rfl sz_76 rfl (by first | rfl | (simp [allOne, Value.oneCell']; done) | assumption | exact hone) (i := 0) rfl (by first | decide | exact Nat.le_of_ble_eq_true rfl | (simp; done) | omega) ?_) | (refine wl_storeA hS5 rfl rfl sz_76 rfl (by first | rfl | (simp [allOne, Value.oneCell']; done) | assumption | exact hone) (i := 1) rfl (by first | decide | exact Nat.le_of_ble_eq_true rfl | (simp; done) | omega) ?_)
  intro w6 hS7; dsimp only [List.set] at hS7
  clear hS5
  refine wl_assign rfl rfl (wl_nil ?_)
  have hS8 := shT_shut (hS7.pick [1, 2, 3, 4, 5, 6, 7, 8, 9] rfl)
  refine qs_seq ?_
  refine wc_sub (L' := [(8, _), (6, _), (0, _), (1, _), (2, _)]) (.cons rfl (.cons rfl (.cons rfl (.cons rfl (.cons rfl .nil))))) ?_
  refine wc_seq (wc_region (wl_move rfl rfl (wl_nil (qs_seq ?_))))
  refine wc_cond rfl (fun h9 => ?_) (fun h9 => ?_)
  ·refine wc_seq (wc_region (wl_assign rfl rfl (wl_nil (qs_seq (wc_ret (qs_then_ret ?_))))))
   refine fin1 (.inr rfl) rfl rfl ?_
   exact ⟨_, rfl, .inl ⟨_, rfl, by omega, hS8.pick [0, 1] rfl⟩⟩
  exact absurd h9 (by simp)
set_option maxRecDepth 100000 in
theorem shref_sp {w : World} {p : Nat} {S : SS} {F : Th} (hS : Sat w [shT p S, F]) {N : Nat} (hI : ShI no0 N S) (hN : N ≤ 800000) (id : Int) :
    Calls Tryz.prog 32 #[ptrV p 0, intV id] w (Ret fun v w' => (match S.all id with | none => v = (if id = 0 then intV 0 else intV 4) ∧ Sat w' [shT p S, F] | some x => v = intV 0 ∧ Sat w' [shT p { S with all := up S.all id (some { x with refs := x.refs + 1 }) }, F])) := by
 obtain ⟨ba, bi, fp, sp, kp, ac, cc, at2, ct, hS⟩ := shT_open hS
 cases hid : S.all id with
 | none =>
  dsimp only
  refine calls_enter Tryz.func32 rfl Tryz.ntmps32 rfl ?_
  refine wc_seq (wc_region (wl_assign rfl rfl (wl_nil (qs_seq (wc_seq (wc_region (wl_move rfl rfl (wl_nilCheck rfl rfl ?_))))))))
  refine wl_fieldAddr rfl fo_65_0 rfl ?_
  refine wl_load rfl ag_56 (by first | assumption | exact hS.cell 0 rfl rfl) rfl ?_
  refine wl_move rfl rfl ?_
  refine wl_lookupOk (k := id) 1 hS keysInt Tryz.underlying56 rfl rfl rfl zr_76 (u := (.agg #[intV 0, intV 0, intV 0, strV []])) (g := false) (aG_none hid) (aG_none2 hid) rfl ?_
  refine wl_move rfl rfl (wl_extract rfl rfl rfl (wl_extract rfl rfl rfl ?_))
  refine wl_alloc hS zr_76 rfl rfl ?_
  intro b1 w1 hS1
  first | (refine wl_storeA hS1 rfl rfl sz_76 rfl (by first | rfl | (simp [allOne, Value.oneCell']; done) | assumption | exact hone) (i := 0) rfl (by first | decide | exact Nat.le_of_ble_eq_true rfl | (simp; done) | omega) ?_) | (refine wl_storeA hS1 rfl rfl sz_76 rfl (by first | rfl | (simp [allOne, Value.oneCell']; done) | assumption | exact hone) (i := 1) rfl (by first | decide | exact Nat.le_of_ble_eq_true rfl | (simp; done) | omega) ?_)
  intro w2 hS3; dsimp only [List.set] at hS3
  clear hS1
  refine wl_assign rfl rfl (wl_nil (qs_seq ?_))
  refine wc_sub (L' := [(6, _), (5, _), (4, _), (0, _), (1, _)]) (.cons rfl (.cons rfl (.cons rfl (.cons rfl (.cons rfl .nil))))) ?_
  refine wc_seq (wc_seq (wc_region (wl_move rfl rfl ?_)))
  refine wl_not rfl rfl ?_
  refine wl_move rfl rfl ?_
  refine wl_split 18 rfl (fun h4 => ?_) (fun h4 => ?_)
  ·refine wl_guard rfl rfl h4 ?_
   refine wl_move rfl rfl ?_
   refine wl_guard rfl rfl h4 ?_
   refine wl_neq rfl rfl rfl ?_
   refine wl_pickT rfl h4 rfl rfl ?_
   refine wl_nil (qs_seq ?_)
   refine wc_sub (L' := [(21, _), (6, _), (5, _), (4, _), (0, _), (1, _)]) (.cons rfl (.cons rfl (.cons rfl (.cons rfl (.cons rfl (.cons rfl .nil)))))) ?_
   refine wc_condD rfl (fun h5 => ?_) (fun h5 => ?_)
   ·refine wc_seq (wc_region (wl_assign rfl rfl (wl_nil (qs_seq (wc_ret (qs_then_ret ?_))))))
    refine fin1 (.inr rfl) rfl rfl ?_
    exact ⟨_, rfl, by rw [if_neg (by omega)], shT_shut (hS3.pick [1, 2, 3, 4, 5, 6, 7, 8, 9] rfl)⟩
   refine wc_skip (qs_seq (wc_seq (wc_seq (wc_region (wl_move rfl rfl (wl_nil (qs_seq ?_)))))))
   refine wc_cond rfl (fun h6 => ?_) (fun h6 => ?_)
   ·exact absurd h6 (by simp)
   refine wc_skip (qs_seq (wc_seq (wc_region (wl_assign rfl rfl (wl_nil (qs_seq (wc_ret ?_)))))))
   refine fin1 (.inr rfl) rfl rfl ?_
   exact ⟨_, rfl, by rw [if_pos (by omega)], shT_shut (hS3.pick [1, 2, 3, 4, 5, 6, 7, 8, 9] rfl)⟩
  exact absurd h4 (by simp)
 | some x =>
  have hrr := (hI.ent hid).2.2
  dsimp only
  refine calls_enter Tryz.func32 rfl Tryz.ntmps32 rfl ?_
  refine wc_seq (wc_region (wl_assign rfl rfl (wl_nil (qs_seq (wc_seq (wc_region (wl_move rfl rfl (wl_nilCheck rfl rfl ?_))))))))
  refine wl_fieldAddr rfl fo_65_0 rfl ?_
  refine wl_load rfl ag_56 (by first | assumption | exact hS.cell 0 rfl rfl) rfl ?_
  refine wl_move rfl rfl ?_
  refine wl_lookupOk (k := id) 1 hS keysInt Tryz.underlying56 rfl rfl rfl zr_76 (u := (.agg #[intV x.refs, intV x.place, intV x.at_, strV (fmE x)])) (g := true) (aG_some hid) (aG_some2 hid) rfl ?_
  refine wl_move rfl rfl (wl_extract rfl rfl rfl (wl_extract rfl rfl rfl ?_))
  refine wl_alloc hS zr_76 rfl rfl ?_
  intro b1 w1 hS1
  first | (refine wl_storeA hS1 rfl rfl sz_76 rfl (by first | rfl | (simp [allOne, Value.oneCell']; done) | assumption | exact hone) (i := 0) rfl (by first | decide | exact Nat.le_of_ble_eq_true rfl | (simp; done) | omega) ?_) | (refine wl_storeA hS1 rfl rfl sz_76 rfl (by first | rfl | (simp [allOne, Value.oneCell']; done) | assumption | exact hone) (i := 1) rfl (by first | decide | exact Nat.le_of_ble_eq_true rfl | (simp; done) | omega) ?_)
  intro w2 hS3; dsimp only [List.set] at hS3
  clear hS1
  refine wl_assign rfl rfl (wl_nil (qs_seq ?_))
  refine wc_sub (L' := [(6, _), (5, _), (4, _), (0, _), (1, _)]) (.cons rfl (.cons rfl (.cons rfl (.cons rfl (.cons rfl .nil))))) ?_
  refine wc_seq (wc_seq (wc_region (wl_move rfl rfl ?_)))
  refine wl_not rfl rfl ?_
  refine wl_move rfl rfl ?_
  refine wl_split 18 rfl (fun h4 => ?_) (fun h4 => ?_)
  ·exact absurd h4 (by simp)
  refine wl_unwanted rfl rfl h4 rfl ?_
  refine wl_unwanted rfl rfl h4 rfl ?_
  refine wl_pickF rfl h4 rfl rfl ?_
  refine wl_nil (qs_seq ?_)
  refine wc_sub (L' := [(21, _), (6, _), (5, _), (4, _), (0, _), (1, _)]) (.cons rfl (.cons rfl (.cons rfl (.cons rfl (.cons rfl (.cons rfl .nil)))))) ?_
  refine wc_condF rfl ?_
  refine wc_skip (qs_seq (wc_seq (wc_seq (wc_region (wl_move rfl rfl (wl_nil (qs_seq ?_)))))))
  refine wc_cond rfl (fun h5 => ?_) (fun h5 => ?_)
  ·refine wc_seq (wc_region ?_)
   refine wl_fieldAddr rfl fo_76_0 rfl ?_
   refine wl_load rfl ag_3 (by first | assumption | exact hS3.cell 0 rfl rfl | exact hS3.cell 1 rfl rfl) rfl ?_
   refine wl_add rfl rfl (by omega) (by omega) rfl ?_
   refine wl_fieldAddr rfl fo_76_0 rfl ?_
   first | (refine wl_store hS3 rfl rfl sz_3 (by first | rfl | assumption | exact hS3.own_one 4 rfl | exact hS3.own_one 8 rfl) (i := 0) rfl (by first | decide | exact Nat.le_of_ble_eq_true rfl | (simp; done) | omega) ?_) | (refine wl_store hS3 rfl rfl sz_3 (by first | rfl | assumption | exact hS3.own_one 4 rfl | exact hS3.own_one 8 rfl) (i := 1) rfl (by first | decide | exact Nat.le_of_ble_eq_true rfl | (simp; done) | omega) ?_)
   intro w6 hS7; dsimp only [List.set] at hS7
   clear hS3
   refine wl_nil (qs_seq ?_)
   refine wc_sub (L' := [(5, _), (4, _), (0, _), (1, _)]) (.cons rfl (.cons rfl (.cons rfl (.cons rfl .nil)))) ?_
   have hS8 := hS7.drew
   refine wc_draw [0, 1, 2, 3, 4, 5, 6] [6] mix (by kernel_rfl) ?_
   refine vc_p rfl rfl rfl (fun _ => (ev_move rfl)) ?_
   refine vc_p rfl rfl rfl (fun _ => (ev_nilCheck rfl)) ?_
   refine vc_p rfl rfl rfl (fun _ => (ev_fieldAddr rfl fo_65_0)) ?_
   refine vc_q rfl rfl rfl (ev_load rfl ag_56 (by first | assumption | exact hS8.cell 0 rfl rfl | exact hS8.cell 1 rfl rfl)) ?_
   refine vc_p rfl rfl rfl (fun _ => (ev_move rfl)) ?_
   refine vc_q rfl rfl rfl (ev_loadA rfl ag_76 sz_76 (by first | exact hS8.blk 0 rfl | exact hS8.blk 1 rfl) (by first | decide | exact Nat.le_of_ble_eq_true rfl | (simp; done) | omega) rfl) ?_
   refine vc_s rfl rfl rfl rfl rfl rfl ?_
   refine wl_mapUpdate (k := id) (v := shV { x with refs := x.refs + 1 }) 2 hS8 keysInt Tryz.underlying56 rfl rfl rfl rfl ?_
   intro w9 hS9a; dsimp only [List.set] at hS9a; have hS9 := hS9a; rw [aG_up] at hS9
   clear hS8
   refine vc_e0 (.skip (by kernel_rfl) (.skip (by kernel_rfl) .nil)) ?_
   refine VC.nil (qs_seq (wc_seq (wc_region (wl_assign rfl rfl (wl_nil (qs_seq (wc_ret ?_)))))))
   refine fin1 (.inr rfl) rfl rfl ?_
   exact ⟨_, rfl, rfl, shT_shut (S := { S with all := up S.all id (some { x with refs := x.refs + 1 }) }) (hS9.pick [1, 2, 3, 4, 5, 6, 7, 8, 9] rfl)⟩
  exact absurd h5 (by simp)
set_option maxRecDepth 100000 in
theorem shtouch_sp {w : World} {p : Nat} {S : SS} {F : Th} (hS : Sat w [shT p S, F]) {N : Nat} (hI : ShI no0 N S) (hN : N ≤ 800000) (id owner : Int) :
    Calls Tryz.prog 35 #[ptrV p 0, intV id, intV owner] w (Ret fun v w' => v = .tuple #[] ∧ Sat w' [shT p S, F]) := by
 cases hid : S.all id with
 | none =>
  refine calls_enter Tryz.func35 rfl Tryz.ntmps35 rfl ?_
  refine wc_seq (wc_region (wl_move rfl rfl (wl_move rfl rfl ?_)))
  have hC1 := hS.split [0] [true, false] rfl; dsimp only [selF, pickA, nthA, List.cons_append, List.nil_append] at hC1
  refine wl_call cal_18 rfl (shframe_sp hC1 id) rfl ?_
  rintro e w1 ⟨_, rfl, rfl, hS1⟩; refine ⟨_, rfl, ?_⟩
  replace hS1 := hS1.join rfl; dsimp only [List.dropLast, List.cons_append, List.nil_append] at hS1; clear hC1
  rw [hid]
  dsimp only
  refine wl_move rfl rfl (wl_extract rfl rfl rfl (wl_extract rfl rfl rfl (wl_assign rfl rfl (wl_assign rfl rfl (wl_nil (qs_seq ?_))))))
  refine wc_sub (L' := [(7, _), (6, _), (0, _), (2, _)]) (.cons rfl (.cons rfl (.cons rfl (.cons rfl .nil)))) ?_
  refine wc_seq (wc_region (wl_move rfl rfl (wl_nil (qs_seq ?_))))
  refine wc_cond rfl (fun h2 => ?_) (fun h2 => ?_)
  ·exact absurd h2 (by simp)
  refine wc_skip ?_
  refine fin0 (.inl rfl) rfl ?_
  exact ⟨_, rfl, rfl, hS1.pick [0, 1] rfl⟩
 | some x =>
  by_cases hpl : x.place = 1
  ·have hts := touch_same hI hid hpl
   refine calls_enter Tryz.func35 rfl Tryz.ntmps35 rfl ?_
   refine wc_seq (wc_region (wl_move rfl rfl (wl_move rfl rfl ?_)))
   have hC1 := hS.split [0] [true, false] rfl; dsimp only [selF, pickA, nthA, List.cons_append, List.nil_append] at hC1
   refine wl_call cal_18 rfl (shframe_sp hC1 id) rfl ?_
   rintro e w1 ⟨_, rfl, rfl, hS1⟩; refine ⟨_, rfl, ?_⟩
   replace hS1 := hS1.join rfl; dsimp only [List.dropLast, List.cons_append, List.nil_append] at hS1; clear hC1
   rw [hid]
   dsimp only
   rw [if_pos hpl]
   refine wl_move rfl rfl (wl_extract rfl rfl rfl (wl_extract rfl rfl rfl (wl_assign rfl rfl (wl_assign rfl rfl (wl_nil (qs_seq ?_))))))
   refine wc_sub (L' := [(7, _), (6, _), (0, _), (2, _)]) (.cons rfl (.cons rfl (.cons rfl (.cons rfl .nil)))) ?_
   refine wc_seq (wc_region (wl_move rfl rfl (wl_nil (qs_seq ?_))))
   refine wc_cond rfl (fun h2 => ?_) (fun h2 => ?_)
   ·refine wc_seq ?_
    obtain ⟨ba, bi, fp, sp, kp, ac, cc, at2, ct, hSo3⟩ := shT_open (hS1.pick [0, 1] rfl)
    refine wc_region (wl_move rfl rfl (wl_nilCheck rfl rfl ?_))
    refine wl_fieldAddr rfl fo_65_5 rfl ?_
    refine wl_load rfl ag_62 (by first | assumption | exact hSo3.cell 0 rfl rfl) rfl ?_
    refine wl_move rfl rfl (wl_move rfl rfl ?_)
    have hC4 := hSo3.split [6] [false, false, false, false, false, false, true, false, false] rfl; dsimp only [selF, pickA, nthA, List.cons_append, List.nil_append] at hC4
    refine wl_call cal_70 rfl (ckuseT hC4 x.at_ hts.1 owner) rfl ?_
    rintro e w4 ⟨_, rfl, rfl, hS4⟩; refine ⟨_, rfl, ?_⟩
    replace hS4 := hS4.join rfl; dsimp only [List.dropLast, List.cons_append, List.nil_append] at hS4; clear hC4
    clear hSo3
    rw [hts.2] at hS4
    refine wl_nil (qs_seq ?_)
    refine wc_sub (L' := [(6, _), (0, _)]) (.cons rfl (.cons rfl .nil)) ?_
    refine wc_region (wl_move rfl rfl (wl_nilCheck rfl rfl ?_))
    refine wl_fieldAddr rfl fo_65_5 rfl ?_
    refine wl_load rfl ag_62 (by first | assumption | exact hS4.cell 1 rfl rfl) rfl ?_
    refine wl_move rfl rfl ?_
    have hC5 := hS4.split [0] [true, false, false, false, false, false, false, false, false] rfl; dsimp only [selF, pickA, nthA, List.cons_append, List.nil_append] at hC5
    refine wl_call cal_71 rfl (cktouchT hC5 x.at_ hts.1) rfl ?_
    rintro e w5 ⟨_, rfl, rfl, hS5⟩; refine ⟨_, rfl, ?_⟩
    replace hS5 := hS5.join rfl; dsimp only [List.dropLast, List.cons_append, List.nil_append] at hS5; clear hC5
    clear hS4
    refine wl_nil ?_
    refine fin0 (.inl rfl) rfl ?_
    exact ⟨_, rfl, rfl, shT_shut (hS5.pick [1, 2, 3, 4, 5, 6, 0, 7, 8] rfl)⟩
   exact absurd h2 (by simp)
  refine calls_enter Tryz.func35 rfl Tryz.ntmps35 rfl ?_
  refine wc_seq (wc_region (wl_move rfl rfl (wl_move rfl rfl ?_)))
  have hC1 := hS.split [0] [true, false] rfl; dsimp only [selF, pickA, nthA, List.cons_append, List.nil_append] at hC1
  refine wl_call cal_18 rfl (shframe_sp hC1 id) rfl ?_
  rintro e w1 ⟨_, rfl, rfl, hS1⟩; refine ⟨_, rfl, ?_⟩
  replace hS1 := hS1.join rfl; dsimp only [List.dropLast, List.cons_append, List.nil_append] at hS1; clear hC1
  rw [hid]
  dsimp only
  rw [if_neg hpl]
  refine wl_move rfl rfl (wl_extract rfl rfl rfl (wl_extract rfl rfl rfl (wl_assign rfl rfl (wl_assign rfl rfl (wl_nil (qs_seq ?_))))))
  refine wc_sub (L' := [(7, _), (6, _), (0, _), (2, _)]) (.cons rfl (.cons rfl (.cons rfl (.cons rfl .nil)))) ?_
  refine wc_seq (wc_region (wl_move rfl rfl (wl_nil (qs_seq ?_))))
  refine wc_cond rfl (fun h2 => ?_) (fun h2 => ?_)
  ·exact absurd h2 (by simp)
  refine wc_skip ?_
  refine fin0 (.inl rfl) rfl ?_
  exact ⟨_, rfl, rfl, hS1.pick [0, 1] rfl⟩
set_option maxRecDepth 100000 in
set_option maxHeartbeats 1600000 in
theorem shevicts_sp {w : World} {p : Nat} {S : SS} {F : Th} (hS : Sat w [shT p S, F]) {N : Nat} (hI : ShI no0 N S) (m : Int) (hN : N + m.toNat ≤ 800000) :
    Calls Tryz.prog 34 #[ptrV p 0, intV m] w (Ret fun v w' => ∃ (d : Nat) (S' : SS), v = intV (d : Int) ∧ ShI no0 (N + m.toNat) S' ∧ ShG S S' ∧ Sat w' [shT p S', F]) := by
 refine calls_enter Tryz.func34 rfl Tryz.ntmps34 rfl ?_
 refine wc_seq (wc_region (wl_assign rfl rfl (wl_nil (qs_seq (wc_seq (wc_region (wl_assign rfl rfl (wl_nil (qs_seq (wc_seq (wc_block ?_)))))))))))
 refine wc_loop (fun K0 E0 W0 => ∃ (d : Nat) (S1 : SS), K0 = m.toNat - d ∧ E0 = [(0, ptrV p 0), (1, intV m), (5, intV (d : Int))] ∧ Sat W0 [shT p S1, F] ∧ (d ≤ m.toNat) ∧ (ShI no0 (N + d) S1) ∧ (ShG S S1)) (L0 := [(0, _), (1, _), (5, _)]) (m.toNat - 0) (.cons rfl (.cons rfl (.cons rfl .nil))) ⟨0, S, rfl, rfl, hS, by omega, hI, ShG.refl S⟩ ?_
 rintro _ _ w1 ⟨d, S1, rfl, rfl, hS1, hd, hI1, hG1⟩
 refine wc_seq (wc_seq (wc_region (wl_move rfl rfl (wl_move rfl rfl ?_))))
 refine wl_lss rfl rfl rfl ?_
 refine wl_nil (qs_seq ?_)
 refine wc_condD rfl (fun h2 => ?_) (fun h2 => ?_)
 ·refine wc_skip (qs_seq (wc_block (wc_seq ?_)))
  obtain ⟨ba, bi, fp, sp, kp, ac, cc, at2, ct, hSo3⟩ := shT_open (hS1.pick [0, 1] rfl)
  refine wc_region (wl_move rfl rfl (wl_nilCheck rfl rfl ?_))
  refine wl_fieldAddr rfl fo_65_5 rfl ?_
  refine wl_load rfl ag_62 (by first | assumption | exact hSo3.cell 0 rfl rfl) rfl ?_
  have hC4 := hSo3.split [6] [false, false, false, false, false, false, true, false, false] rfl; dsimp only [selF, pickA, nthA, List.cons_append, List.nil_append] at hC4
  refine wl_call cal_68 rfl (ckpick_sp hC4) rfl ?_
  rintro e w4 ⟨_, rfl, (⟨kv, hkv, rfl, hS4⟩ | ⟨hno, rfl, hS4⟩)⟩
  ·refine ⟨_, rfl, ?_⟩
   replace hS4 := hS4.join rfl; dsimp only [List.dropLast, List.cons_append, List.nil_append] at hS4; clear hC4
   clear hSo3
   refine wl_move rfl rfl (wl_extract rfl rfl rfl (wl_extract rfl rfl rfl (wl_assign rfl rfl (wl_assign rfl rfl (wl_nil (qs_seq ?_))))))
   refine wc_sub (L' := [(7, _), (6, _), (0, _), (1, _), (5, _)]) (.cons rfl (.cons rfl (.cons rfl (.cons rfl (.cons rfl .nil))))) ?_
   refine wc_seq (wc_seq (wc_region (wl_move rfl rfl ?_)))
   refine wl_not rfl rfl ?_
   refine wl_move rfl rfl ?_
   refine wl_split 21 rfl (fun h5 => ?_) (fun h5 => ?_)
   ·exact absurd h5 (by simp)
   refine wl_guard rfl rfl h5 ?_
   refine wl_move rfl rfl ?_
   refine wl_guard rfl rfl h5 ?_
   refine wl_move rfl rfl ?_
   refine wl_guard rfl rfl h5 ?_
   have hS6 := shT_shut (hS4.pick [1, 2, 3, 4, 5, 6, 0, 7, 8] rfl)
   obtain ⟨bk, hbk⟩ := ck_has hI1 hkv
   have hC7 := hS6.split [0] [true, false] rfl; dsimp only [selF, pickA, nthA, List.cons_append, List.nil_append] at hC7
   refine wl_call cal_69 rfl (shevict_sp hC7 hI1 (by omega) hbk) rfl ?_
   rintro e w7 ⟨_, rfl, (⟨rfl, hfull, hS7⟩ | ⟨rfl, S2, hE2, hS7⟩)⟩
   ·refine ⟨_, rfl, ?_⟩
    replace hS7 := hS7.join rfl; dsimp only [List.dropLast, List.cons_append, List.nil_append] at hS7; clear hC7
    clear hS6
    refine wl_guard rfl rfl h5 ?_
    refine wl_not rfl rfl ?_
    refine wl_pickF rfl h5 rfl rfl ?_
    refine wl_nil (qs_seq ?_)
    refine wc_sub (L' := [(26, _), (0, _), (1, _), (5, _)]) (.cons rfl (.cons rfl (.cons rfl (.cons rfl .nil)))) ?_
    refine wc_cond rfl (fun h8 => ?_) (fun h8 => ?_)
    ·refine wc_exit (qs_then_exit ?_)
     refine qs_block_pass rfl ?_
     refine qs_then_exit (qs_block_exit (qs_seq (wc_seq (wc_region (wl_move rfl rfl (wl_assign rfl rfl (wl_nil (qs_seq (wc_ret ?_)))))))))
     refine fin1 (.inr rfl) rfl rfl ?_
     exact ⟨_, rfl, d, S1, rfl, hI1.mono (by omega), hG1, hS7.pick [0, 1] rfl⟩
    exact absurd h8 (by simp)
   refine ⟨_, rfl, ?_⟩
   replace hS7 := hS7.join rfl; dsimp only [List.dropLast, List.cons_append, List.nil_append] at hS7; clear hC7
   clear hS6
   refine wl_guard rfl rfl h5 ?_
   refine wl_not rfl rfl ?_
   refine wl_pickF rfl h5 rfl rfl ?_
   refine wl_nil (qs_seq ?_)
   refine wc_sub (L' := [(26, _), (0, _), (1, _), (5, _)]) (.cons rfl (.cons rfl (.cons rfl (.cons rfl .nil)))) ?_
   refine wc_cond rfl (fun h9 => ?_) (fun h9 => ?_)
   ·exact absurd h9 (by simp)
   refine wc_skip (qs_seq (wc_region (wl_move rfl rfl ?_)))
   refine wl_add rfl rfl (by omega) (by omega) rfl ?_
   refine wl_assign rfl rfl (wl_nil (qs_block_normal ?_))
   exact qs_round (L1 := [(0, _), (1, _), (5, intV ((d + 1 : Nat) : Int))]) (.cons rfl (.cons rfl (.cons rfl .nil))) (k1 := m.toNat - (d + 1)) (by omega) ⟨d + 1, S2, rfl, rfl, hS7.pick [0, 1] rfl, by omega, hE2.inv, hG1.trans hE2.go⟩
  refine ⟨_, rfl, ?_⟩
  replace hS4 := hS4.join rfl; dsimp only [List.dropLast, List.cons_append, List.nil_append] at hS4; clear hC4
  clear hSo3
  refine wl_move rfl rfl (wl_extract rfl rfl rfl (wl_extract rfl rfl rfl (wl_assign rfl rfl (wl_assign rfl rfl (wl_nil (qs_seq ?_))))))
  refine wc_sub (L' := [(7, _), (6, _), (0, _), (1, _), (5, _)]) (.cons rfl (.cons rfl (.cons rfl (.cons rfl (.cons rfl .nil))))) ?_
  refine wc_seq (wc_seq (wc_region (wl_move rfl rfl ?_)))
  refine wl_not rfl rfl ?_
  refine wl_move rfl rfl ?_
  refine wl_split 21 rfl (fun h10 => ?_) (fun h10 => ?_)
  ·refine wl_unwanted rfl rfl h10 rfl ?_
   refine wl_unwanted rfl rfl h10 rfl ?_
   refine wl_unwanted rfl rfl h10 rfl ?_
   refine wl_unwanted rfl rfl h10 rfl ?_
   refine wl_pickT rfl h10 rfl rfl ?_
   refine wl_nil (qs_seq ?_)
   refine wc_sub (L' := [(26, _), (0, _), (1, _), (5, _)]) (.cons rfl (.cons rfl (.cons rfl (.cons rfl .nil)))) ?_
   refine wc_condT rfl ?_
   refine wc_exit (qs_then_exit ?_)
   refine qs_block_pass rfl ?_
   refine qs_then_exit (qs_block_exit (qs_seq (wc_seq (wc_region (wl_move rfl rfl (wl_assign rfl rfl (wl_nil (qs_seq (wc_ret ?_)))))))))
   refine fin1 (.inr rfl) rfl rfl ?_
   exact ⟨_, rfl, d, S1, rfl, hI1.mono (by omega), hG1, shT_shut (hS4.pick [1, 2, 3, 4, 5, 6, 0, 7, 8] rfl)⟩
  exact absurd h10 (by simp)
 refine wc_exit (qs_then_exit (qs_then_exit (qs_block_exit (qs_seq (wc_seq (wc_region (wl_move rfl rfl (wl_assign rfl rfl (wl_nil (qs_seq (wc_ret ?_)))))))))))
 refine fin1 (.inr rfl) rfl rfl ?_
 exact ⟨_, rfl, d, S1, rfl, hI1.mono (by omega), hG1, hS1.pick [0, 1] rfl⟩
end Go.Proofs.YtnicmcdeoimhlaaGreat
/- An owned row, cut off behind: s[:m]. Conditions: the rules' own hypotheses. -/
namespace Go.Proofs.YtnicmcdeoimhlaaGreat.M
open Go.RowKit
theorem Sat.row_shrink {α : Type} {C : RowC α} {w : World} {As : List Th} {b n cap : Nat} {l : List α} (m : Nat) (h : Sat w (rowT C (.slice (some ⟨b, 0, none⟩) n cap) l :: As)) (hm : m ≤ l.length) : Sat w (rowT C (.slice (some ⟨b, 0, none⟩) m cap) (l.take m) :: As) := by
  obtain ⟨F, F1, F2, rfl, dj, ⟨foot, e1, hl, h1⟩, h2⟩ := h
  refine ⟨_, F1, F2, rfl, dj, ⟨foot, e1, ?_⟩, h2⟩
  refine ⟨by rw [C.cells_len], ?_⟩
  rcases h1 with ⟨h1, _⟩ | ⟨b', cap', sp, h1, h3, h4, h5, h6⟩
  · cases h1
  · simp only [Value.slice.injEq, Option.some.injEq, Addr.mk.injEq, and_true] at h1
    obtain ⟨rfl, rfl, rfl⟩ := h1
    have e : C.cells (l.take m) ++ ((C.cells l).drop (m * C.size) ++ sp) = C.cells l ++ sp := by rw [← C.cells_take, ← List.append_assoc, List.take_append_drop]
    refine .inr ⟨b, cap, (C.cells l).drop (m * C.size) ++ sp, by rw [List.length_take, Nat.min_eq_left hm], by rw [List.length_take, Nat.min_eq_left hm]; omega, by rw [e]; exact h4, by rw [e]; exact h5, h6⟩
theorem del_zero {l : List Int} {i : Nat} (hi : i ≤ l.length) : splice (inC.cells l) (0 + i * 1) (List.replicate (l.length - i) [intV 0]).flatten = inC.cells (l.take i ++ List.replicate (l.length - i) 0) := by
  have e : (List.replicate (l.length - i) [intV 0]).flatten = inC.cells (List.replicate (l.length - i) 0) := by
    generalize l.length - i = m
    induction m with
    | zero => rfl
    | succ m ih => rw [List.replicate_succ, List.flatten_cons, ih, List.replicate_succ]; rfl
  rw [e]
  unfold splice
  rw [show 0 + i * 1 = i * inC.size by show 0 + i * 1 = i * 1; omega, inC.cells_take, inC.cells_app, List.drop_of_length_le (by rw [inC.cells_len, inC.cells_len, List.length_replicate]; show l.length * 1 ≤ i * 1 + (l.length - i) * 1; omega), List.append_nil]
theorem filter_take {l : List Int} {j : Nat} {v : Int} {id : Int} (h : l[j]? = some v) : (l.take (j + 1)).filter (fun n => !decide (n = id)) = (l.take j).filter (fun n => !decide (n = id)) ++ (if v = id then [] else [v]) := by
  rw [List.take_add_one, h, List.filter_append]
  congr 1
  by_cases q : v = id <;> simp [q]
theorem ev_makeFunc {P : Program} {L : Env} {w : World} {d : Nat} {ty : TypeId} {pos : String} {aft : Array Edge} {f : Nat} {cap : List Operand} {vs : List Value} (hx : looks L cap = some vs) : Ev P L w ⟨some d, .makeFunc (.func f) #[] cap.toArray, ty, pos, aft, none⟩ (.func (.func f) #[] vs.toArray) := fun ρ hρ => by
  have h : ∀ (cap : List Operand) (vs : List Value), looks L cap = some vs → cap.map ρ = vs := by
    intro cap
    induction cap with
    | nil => intro vs h; simp [looks] at h; subst h; rfl
    | cons x xs ih =>
      intro vs h
      simp only [looks] at h
      cases h1 : look L x with
      | none => simp [h1] at h
      | some v =>
        cases h2 : looks L xs with
        | none => simp [h1, h2] at h
        | some us => simp [h1, h2] at h; subst h; simp [hρ _ _ h1, ih us h2]
  have h1 := h cap vs hx
  simp [execOp, Instr.makeFunc, h1]
end Go.Proofs.YtnicmcdeoimhlaaGreat.M
