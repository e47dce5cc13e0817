/- sheets: the store; giveUp, packed and what tells -/
import Derived.Test.YtnicmcdeoimhlaaGreatCk2
import Derived.Test.YtnicmcdeoimhlaaGreatRow
namespace Go.Proofs.YtnicmcdeoimhlaaGreat
open Go.RowKit M
set_option linter.unusedVariables false
def fmE (x : ShE) : Bs := if x.place = 2 then fm x.pg else []
def shV (x : ShE) : Value := .agg #[intV x.refs, intV x.place, intV x.at_, strV (fmE x)]
def aG (A : Int → Option ShE) : Int → Option Value := fun k => (A k).map shV
theorem aG_some {A : Int → Option ShE} {k : Int} {x : ShE} {z : Value} (h : A k = some x) : (aG A k).getD z = .agg #[intV x.refs, intV x.place, intV x.at_, strV (fmE x)] := by unfold aG; rw [h]; rfl
theorem aG_some2 {A : Int → Option ShE} {k : Int} {x : ShE} (h : A k = some x) : (aG A k).isSome = true := by unfold aG; rw [h]; rfl
theorem aG_none {A : Int → Option ShE} {k : Int} {z : Value} (h : A k = none) : (aG A k).getD z = z := by unfold aG; rw [h]; rfl
theorem aG_none2 {A : Int → Option ShE} {k : Int} (h : A k = none) : (aG A k).isSome = false := by unfold aG; rw [h]; rfl
theorem aG_up (A : Int → Option ShE) (k : Int) (x : ShE) : upd (aG A) k (some (shV x)) = aG (up A k (some x)) := by
  funext j
  by_cases h : j = k
  · subst h; rw [upd_self]; unfold aG; rw [up_self]; rfl
  · rw [upd_ne h]; unfold aG; rw [up_ne h]
theorem aG_del (A : Int → Option ShE) (k : Int) : upd (aG A) k none = aG (up A k none) := by
  funext j
  by_cases h : j = k
  · subst h; rw [upd_self]; unfold aG; rw [up_self]; rfl
  · rw [upd_ne h]; unfold aG; rw [up_ne h]
theorem gI_del (g : Int → Option Int) (k : Int) : upd (gI g) k none = gI (up g k none) := by
  funext j
  by_cases h : j = k
  · subst h; rw [upd_self]; unfold gI; rw [up_self]; rfl
  · rw [upd_ne h]; unfold gI; rw [up_ne h]
structure ShX where
  ba : Nat
  bi : Nat
  fp : Nat
  sp : Nat
  kp : Nat
  cv : Value
  tv : Value
def shT (p : Nat) (S : SS) : Th := exT fun q : ShX => starL [blkT p [.map (some q.ba), .map (some q.bi), q.cv, ptrV q.fp 0, ptrV q.sp 0, ptrV q.kp 0, intV S.slots, intV S.budget, intV S.next, q.tv], mapT intK q.ba (aG S.all), mapT intK q.bi (gI S.inn), rowT inC q.cv S.cache, frT q.fp S.fr, swT q.sp S.sl, ckT q.kp S.ck, rowT inC q.tv S.taken]
theorem shT_open {w : World} {p : Nat} {S : SS} {As : List Th} (h : Sat w (shT p S :: As)) : ∃ ba bi fp sp kp ac cc at2 ct, Sat w (blkT p [.map (some ba), .map (some bi), .slice ac S.cache.length cc, ptrV fp 0, ptrV sp 0, ptrV kp 0, intV S.slots, intV S.budget, intV S.next, .slice at2 S.taken.length ct] :: mapT intK ba (aG S.all) :: mapT intK bi (gI S.inn) :: rowT inC (.slice ac S.cache.length cc) S.cache :: frT fp S.fr :: swT sp S.sl :: ckT kp S.ck :: rowT inC (.slice at2 S.taken.length ct) S.taken :: As) := by
  obtain ⟨⟨ba, bi, fp, sp, kp, cv, tv⟩, h⟩ := h.ex
  replace h := h.flat
  obtain ⟨ac, cc, hv, _⟩ := Sat.own_shape (As := blkT p _ :: mapT intK ba (aG S.all) :: mapT intK bi (gI S.inn) :: rowT inC cv S.cache :: frT fp S.fr :: swT sp S.sl :: ckT kp S.ck :: rowT inC tv S.taken :: As) h 3 rfl
  obtain rfl := hv
  obtain ⟨at2, ct, hv, _⟩ := Sat.own_shape (As := blkT p _ :: mapT intK ba (aG S.all) :: mapT intK bi (gI S.inn) :: rowT inC _ S.cache :: frT fp S.fr :: swT sp S.sl :: ckT kp S.ck :: rowT inC tv S.taken :: As) h 7 rfl
  obtain rfl := hv
  exact ⟨ba, bi, fp, sp, kp, ac, cc, at2, ct, h⟩
theorem shT_shut {w : World} {p : Nat} {S : SS} {As : List Th} {ba bi fp sp kp : Nat} {cv tv : Value} (h : Sat w (blkT p [.map (some ba), .map (some bi), cv, ptrV fp 0, ptrV sp 0, ptrV kp 0, intV S.slots, intV S.budget, intV S.next, tv] :: mapT intK ba (aG S.all) :: mapT intK bi (gI S.inn) :: rowT inC cv S.cache :: frT fp S.fr :: swT sp S.sl :: ckT kp S.ck :: rowT inC tv S.taken :: As)) : Sat w (shT p S :: As) :=
  Sat.ex_intro (f := fun q : ShX => starL [blkT p [.map (some q.ba), .map (some q.bi), q.cv, ptrV q.fp 0, ptrV q.sp 0, ptrV q.kp 0, intV S.slots, intV S.budget, intV S.next, q.tv], mapT intK q.ba (aG S.all), mapT intK q.bi (gI S.inn), rowT inC q.cv S.cache, frT q.fp S.fr, swT q.sp S.sl, ckT q.kp S.ck, rowT inC q.tv S.taken]) ⟨ba, bi, fp, sp, kp, cv, tv⟩
    (Sat.fold (As := [blkT p _, mapT intK ba (aG S.all), mapT intK bi (gI S.inn), rowT inC cv S.cache, frT fp S.fr, swT sp S.sl, ckT kp S.ck, rowT inC tv S.taken]) h)
set_option maxRecDepth 100000 in
theorem cloneI_sp {w : World} {F : Th} (hS : Sat w [F]) {lv : Value} {l : List Int} (hL : Ent F (RdL inC lv l)) (hln : l.length ≤ 1000000) :
    Calls Tryz.prog 55 #[lv] w (Ret fun v w' => Sat w' [rowT inC v l, F]) := by
 obtain ⟨ao, cap, rfl, hmax⟩ := (hL.sat hS 0 rfl).shape
 refine calls_enter Tryz.func55 rfl Tryz.ntmps55 rfl ?_
 refine wc_seq (wc_region (wl_assign rfl rfl (wl_nil (qs_seq (wc_seq (wc_seq (wc_region (wl_move rfl rfl ?_))))))))
 refine wl_eqlSlNil Tryz.underlying28 rfl rfl rfl ?_
 refine wl_nil (qs_seq ?_)
 refine wc_cond rfl (fun h1 => ?_) (fun h1 => ?_)
 ·refine wc_seq (wc_region (wl_assign rfl rfl (wl_nil (qs_seq (wc_ret (qs_then_ret ?_))))))
  refine fin1 (.inr rfl) rfl rfl ?_
  obtain rfl := Option.isNone_iff_eq_none.1 (by assumption : ao.isNone = true)
  have hnl : l = [] := (hL.sat hS 0 rfl).isNil
  exact ⟨_, rfl, by rw [hnl]; exact (hS.pick [0] rfl).row_nil inC⟩
 refine wc_skip (qs_seq (wc_seq (wc_region ?_)))
 refine wl_rowBuild inC [] hS rfl Tryz.underlying28 ifz_3 rfl rfl rfl rfl (by first | rfl | simp [RowC.cells, fillL, splice]) rfl ?_
 intro b2 w2 hS2
 refine wl_move rfl rfl ?_
 refine wl_rowApp inC 0 hS2 rfl rfl rfl (hL.sat hS2 1 rfl) Tryz.underlying28 Tryz.underlying28 (by intro k hk; cases hk) ifo_3 rfl (by simp only [List.length_nil]; omega) rfl (by simp only [List.length_nil]; omega) ?_
 intro v3 w3 hS3; dsimp only [List.set] at hS3
 clear hS2
 have h1v3 : v3.oneCell' = true := hS3.own_one 0 rfl
 refine wl_assign rfl rfl (wl_nil (qs_seq (wc_ret ?_)))
 refine fin1 (.inr rfl) rfl rfl ?_
 exact ⟨_, rfl, hS3.pick [0, 1] rfl⟩
theorem shrefs_sp {w : World} {p : Nat} {S : SS} {F : Th} (hS : Sat w [shT p S, F]) (id : Int) :
    Calls Tryz.prog 25 #[ptrV p 0, intV id] w (Ret fun v w' => v = (match S.all id with | none => intV 0 | some x => intV x.refs) ∧ Sat w' [shT p S, F]) := by
 obtain ⟨ba, bi, fp, sp, kp, ac, cc, at2, ct, hS⟩ := shT_open hS
 cases hid : S.all id with
 | none =>
  refine calls_enter Tryz.func25 rfl Tryz.ntmps25 rfl ?_
  refine wc_seq (wc_region (wl_assign rfl rfl (wl_nil (qs_seq (wc_seq (wc_region (wl_move rfl rfl (wl_nilCheck rfl rfl ?_))))))))
  refine wl_fieldAddr rfl fo_65_0 rfl ?_
  refine wl_load rfl ag_56 (by first | assumption | exact hS.cell 0 rfl rfl) rfl ?_
  refine wl_move rfl rfl ?_
  refine wl_lookup (k := id) 1 hS keysInt Tryz.underlying56 rfl rfl rfl zr_76 (u := (.agg #[intV 0, intV 0, intV 0, strV []])) (aG_none hid) rfl ?_
  refine wl_field fv_76_0 rfl rfl rfl ?_
  refine wl_assign rfl rfl (wl_nil (qs_seq (wc_ret ?_)))
  refine fin1 (.inr rfl) rfl rfl ?_
  exact ⟨_, rfl, rfl, shT_shut (hS.pick [0, 1, 2, 3, 4, 5, 6, 7, 8] rfl)⟩
 | some x =>
  refine calls_enter Tryz.func25 rfl Tryz.ntmps25 rfl ?_
  refine wc_seq (wc_region (wl_assign rfl rfl (wl_nil (qs_seq (wc_seq (wc_region (wl_move rfl rfl (wl_nilCheck rfl rfl ?_))))))))
  refine wl_fieldAddr rfl fo_65_0 rfl ?_
  refine wl_load rfl ag_56 (by first | assumption | exact hS.cell 0 rfl rfl) rfl ?_
  refine wl_move rfl rfl ?_
  refine wl_lookup (k := id) 1 hS keysInt Tryz.underlying56 rfl rfl rfl zr_76 (u := (.agg #[intV x.refs, intV x.place, intV x.at_, strV (fmE x)])) (aG_some hid) rfl ?_
  refine wl_field fv_76_0 rfl rfl rfl ?_
  refine wl_assign rfl rfl (wl_nil (qs_seq (wc_ret ?_)))
  refine fin1 (.inr rfl) rfl rfl ?_
  exact ⟨_, rfl, rfl, shT_shut (hS.pick [0, 1, 2, 3, 4, 5, 6, 7, 8] rfl)⟩
theorem shplace_sp {w : World} {p : Nat} {S : SS} {F : Th} (hS : Sat w [shT p S, F]) (id : Int) :
    Calls Tryz.prog 19 #[ptrV p 0, intV id] w (Ret fun v w' => v = (match S.all id with | none => intV 0 | some x => intV x.place) ∧ Sat w' [shT p S, F]) := by
 obtain ⟨ba, bi, fp, sp, kp, ac, cc, at2, ct, hS⟩ := shT_open hS
 cases hid : S.all id with
 | none =>
  refine calls_enter Tryz.func19 rfl Tryz.ntmps19 rfl ?_
  refine wc_seq (wc_region (wl_assign rfl rfl (wl_nil (qs_seq (wc_seq (wc_region (wl_move rfl rfl (wl_nilCheck rfl rfl ?_))))))))
  refine wl_fieldAddr rfl fo_65_0 rfl ?_
  refine wl_load rfl ag_56 (by first | assumption | exact hS.cell 0 rfl rfl) rfl ?_
  refine wl_move rfl rfl ?_
  refine wl_lookup (k := id) 1 hS keysInt Tryz.underlying56 rfl rfl rfl zr_76 (u := (.agg #[intV 0, intV 0, intV 0, strV []])) (aG_none hid) rfl ?_
  refine wl_field fv_76_1 rfl rfl rfl ?_
  refine wl_assign rfl rfl (wl_nil (qs_seq (wc_ret ?_)))
  refine fin1 (.inr rfl) rfl rfl ?_
  exact ⟨_, rfl, rfl, shT_shut (hS.pick [0, 1, 2, 3, 4, 5, 6, 7, 8] rfl)⟩
 | some x =>
  refine calls_enter Tryz.func19 rfl Tryz.ntmps19 rfl ?_
  refine wc_seq (wc_region (wl_assign rfl rfl (wl_nil (qs_seq (wc_seq (wc_region (wl_move rfl rfl (wl_nilCheck rfl rfl ?_))))))))
  refine wl_fieldAddr rfl fo_65_0 rfl ?_
  refine wl_load rfl ag_56 (by first | assumption | exact hS.cell 0 rfl rfl) rfl ?_
  refine wl_move rfl rfl ?_
  refine wl_lookup (k := id) 1 hS keysInt Tryz.underlying56 rfl rfl rfl zr_76 (u := (.agg #[intV x.refs, intV x.place, intV x.at_, strV (fmE x)])) (aG_some hid) rfl ?_
  refine wl_field fv_76_1 rfl rfl rfl ?_
  refine wl_assign rfl rfl (wl_nil (qs_seq (wc_ret ?_)))
  refine fin1 (.inr rfl) rfl rfl ?_
  exact ⟨_, rfl, rfl, shT_shut (hS.pick [0, 1, 2, 3, 4, 5, 6, 7, 8] rfl)⟩
theorem shframe_sp {w : World} {p : Nat} {S : SS} {F : Th} (hS : Sat w [shT p S, F]) (id : Int) :
    Calls Tryz.prog 18 #[ptrV p 0, intV id] w (Ret fun v w' => v = (match S.all id with | none => .tuple #[intV 0, .bool false] | some x => (if x.place = 1 then .tuple #[intV x.at_, .bool true] else .tuple #[intV 0, .bool false])) ∧ Sat w' [shT p S, F]) := by
 obtain ⟨ba, bi, fp, sp, kp, ac, cc, at2, ct, hS⟩ := shT_open hS
 cases hid : S.all id with
 | none =>
  refine calls_enter Tryz.func18 rfl Tryz.ntmps18 rfl ?_
  refine wc_seq (wc_region (wl_assign rfl rfl (wl_assign rfl rfl (wl_nil (qs_seq (wc_seq (wc_region (wl_move rfl rfl (wl_nilCheck rfl rfl ?_)))))))))
  refine wl_fieldAddr rfl fo_65_0 rfl ?_
  refine wl_load rfl ag_56 (by first | assumption | exact hS.cell 0 rfl rfl) rfl ?_
  refine wl_move rfl rfl ?_
  refine wl_lookup (k := id) 1 hS keysInt Tryz.underlying56 rfl rfl rfl zr_76 (u := (.agg #[intV 0, intV 0, intV 0, strV []])) (aG_none hid) rfl ?_
  refine wl_alloc hS zr_76 rfl rfl ?_
  intro b1 w1 hS1
  first | (refine wl_storeA hS1 rfl rfl sz_76 rfl (by first | rfl | (simp [allOne, Value.oneCell']; done) | assumption | exact hone) (i := 0) rfl (by first | decide | exact Nat.le_of_ble_eq_true rfl | (simp; done) | omega) ?_) | (refine wl_storeA hS1 rfl rfl sz_76 rfl (by first | rfl | (simp [allOne, Value.oneCell']; done) | assumption | exact hone) (i := 1) rfl (by first | decide | exact Nat.le_of_ble_eq_true rfl | (simp; done) | omega) ?_)
  intro w2 hS3; dsimp only [List.set] at hS3
  clear hS1
  refine wl_nil (qs_seq ?_)
  refine wc_sub (L' := [(6, _), (5, _), (4, _)]) (.cons rfl (.cons rfl (.cons rfl .nil))) ?_
  refine wc_seq (wc_seq (wc_region ?_))
  refine wl_fieldAddr rfl fo_76_1 rfl ?_
  refine wl_load rfl ag_3 (by first | assumption | exact hS3.cell 0 rfl rfl | exact hS3.cell 1 rfl rfl) rfl ?_
  refine wl_neq rfl rfl rfl ?_
  refine wl_nil (qs_seq ?_)
  refine wc_condD rfl (fun h4 => ?_) (fun h4 => ?_)
  ·refine wc_seq (wc_region (wl_assign rfl rfl (wl_assign rfl rfl (wl_nil (qs_seq (wc_ret (qs_then_ret ?_)))))))
   refine fin2 (.inr rfl) rfl rfl rfl ?_
   exact ⟨_, rfl, rfl, shT_shut (hS3.pick [1, 2, 3, 4, 5, 6, 7, 8, 9] rfl)⟩
  exact absurd (by decide) h4
 | some x =>
  refine calls_enter Tryz.func18 rfl Tryz.ntmps18 rfl ?_
  refine wc_seq (wc_region (wl_assign rfl rfl (wl_assign rfl rfl (wl_nil (qs_seq (wc_seq (wc_region (wl_move rfl rfl (wl_nilCheck rfl rfl ?_)))))))))
  refine wl_fieldAddr rfl fo_65_0 rfl ?_
  refine wl_load rfl ag_56 (by first | assumption | exact hS.cell 0 rfl rfl) rfl ?_
  refine wl_move rfl rfl ?_
  refine wl_lookup (k := id) 1 hS keysInt Tryz.underlying56 rfl rfl rfl zr_76 (u := (.agg #[intV x.refs, intV x.place, intV x.at_, strV (fmE x)])) (aG_some hid) rfl ?_
  refine wl_alloc hS zr_76 rfl rfl ?_
  intro b1 w1 hS1
  first | (refine wl_storeA hS1 rfl rfl sz_76 rfl (by first | rfl | (simp [allOne, Value.oneCell']; done) | assumption | exact hone) (i := 0) rfl (by first | decide | exact Nat.le_of_ble_eq_true rfl | (simp; done) | omega) ?_) | (refine wl_storeA hS1 rfl rfl sz_76 rfl (by first | rfl | (simp [allOne, Value.oneCell']; done) | assumption | exact hone) (i := 1) rfl (by first | decide | exact Nat.le_of_ble_eq_true rfl | (simp; done) | omega) ?_)
  intro w2 hS3; dsimp only [List.set] at hS3
  clear hS1
  refine wl_nil (qs_seq ?_)
  refine wc_sub (L' := [(6, _), (5, _), (4, _)]) (.cons rfl (.cons rfl (.cons rfl .nil))) ?_
  refine wc_seq (wc_seq (wc_region ?_))
  refine wl_fieldAddr rfl fo_76_1 rfl ?_
  refine wl_load rfl ag_3 (by first | assumption | exact hS3.cell 0 rfl rfl | exact hS3.cell 1 rfl rfl) rfl ?_
  refine wl_neq rfl rfl rfl ?_
  refine wl_nil (qs_seq ?_)
  refine wc_condD rfl (fun h4 => ?_) (fun h4 => ?_)
  ·refine wc_seq (wc_region (wl_assign rfl rfl (wl_assign rfl rfl (wl_nil (qs_seq (wc_ret (qs_then_ret ?_)))))))
   refine fin2 (.inr rfl) rfl rfl rfl ?_
   exact ⟨_, rfl, by dsimp only; rw [if_neg (by omega)], shT_shut (hS3.pick [1, 2, 3, 4, 5, 6, 7, 8, 9] rfl)⟩
  refine wc_skip (qs_seq (wc_seq (wc_region ?_)))
  refine wl_fieldAddr rfl fo_76_2 rfl ?_
  refine wl_load rfl ag_3 (by first | assumption | exact hS3.cell 0 rfl rfl | exact hS3.cell 1 rfl rfl) rfl ?_
  refine wl_assign rfl rfl (wl_assign rfl rfl (wl_nil (qs_seq (wc_ret ?_))))
  refine fin2 (.inr rfl) rfl rfl rfl ?_
  exact ⟨_, rfl, by dsimp only; rw [if_pos (by omega)], shT_shut (hS3.pick [1, 2, 3, 4, 5, 6, 7, 8, 9] rfl)⟩
set_option maxRecDepth 100000 in
theorem shroom_sp {w : World} {p : Nat} {S : SS} {F : Th} (hS : Sat w [shT p S, F]) {E : Int → Prop} {N : Nat} (hI : ShI E N S) :
    Calls Tryz.prog 16 #[ptrV p 0] w (Ret fun v w' => v = intV ((S.fr.length : Int) - (usedF S.fr : Int) + S.slots - (usedN S.sl : Int)) ∧ Sat w' [shT p S, F]) := by
 have h1 := usedF_le S.fr
 have h2 := usedN_le S.sl
 have h3 := hI.fr2
 have h4 := hI.sl2
 have h5 := hI.slo
 obtain ⟨ba, bi, fp, sp, kp, ac, cc, at2, ct, hS⟩ := shT_open hS
 refine calls_enter Tryz.func16 rfl Tryz.ntmps16 rfl ?_
 refine wc_seq (wc_region (wl_assign rfl rfl (wl_nil (qs_seq (wc_seq ?_)))))
 have hS1 := hS.drew
 refine wc_draw [0, 1, 2, 3, 5, 6, 7, 8, 11, 12, 13, 14, 16, 17, 18, 19, 4, 9, 10, 15, 20, 21, 22] [4, 9, 20] mix (by kernel_rfl) ?_
 refine vc_p rfl rfl rfl (fun _ => (ev_move rfl)) ?_
 refine vc_p rfl rfl rfl (fun _ => (ev_nilCheck rfl)) ?_
 refine vc_p rfl rfl rfl (fun _ => (ev_fieldAddr rfl fo_65_3)) ?_
 refine vc_q rfl rfl rfl (ev_load rfl ag_58 (by first | assumption | exact hS1.cell 0 rfl rfl)) ?_
 refine vc_p rfl rfl rfl (fun _ => (ev_move rfl)) ?_
 refine vc_p rfl rfl rfl (fun _ => (ev_nilCheck rfl)) ?_
 refine vc_p rfl rfl rfl (fun _ => (ev_fieldAddr rfl fo_65_3)) ?_
 refine vc_q rfl rfl rfl (ev_load rfl ag_58 (by first | assumption | exact hS1.cell 0 rfl rfl)) ?_
 refine vc_p rfl rfl rfl (fun _ => (ev_move rfl)) ?_
 refine vc_p rfl rfl rfl (fun _ => (ev_nilCheck rfl)) ?_
 refine vc_p rfl rfl rfl (fun _ => (ev_fieldAddr rfl fo_65_6)) ?_
 refine vc_q rfl rfl rfl (ev_load rfl ag_3 (by first | assumption | exact hS1.cell 0 rfl rfl)) ?_
 refine vc_p rfl rfl rfl (fun _ => (ev_move rfl)) ?_
 refine vc_p rfl rfl rfl (fun _ => (ev_nilCheck rfl)) ?_
 refine vc_p rfl rfl rfl (fun _ => (ev_fieldAddr rfl fo_65_4)) ?_
 refine vc_q rfl rfl rfl (ev_load rfl ag_60 (by first | assumption | exact hS1.cell 0 rfl rfl)) ?_
 refine vc_s rfl rfl rfl rfl rfl rfl ?_
 have hC2 := hS1.split [4] [false, false, false, false, true, false, false, false, false] rfl; dsimp only [selF, pickA, nthA, List.cons_append, List.nil_append] at hC2
 refine wl_call cal_39 rfl (frsize_sp hC2) rfl ?_
 rintro e w2 ⟨_, rfl, rfl, hS2⟩; refine ⟨_, rfl, ?_⟩
 replace hS2 := hS2.join rfl; dsimp only [List.dropLast, List.cons_append, List.nil_append] at hS2; clear hC2
 clear hS1
 refine vc_e (.cons (.inl ⟨rfl, (ev_load rfl ag_60 (by first | assumption | exact hS2.cell 1 rfl rfl))⟩) (.cons (.inl ⟨rfl, (ev_load rfl ag_3 (by first | assumption | exact hS2.cell 1 rfl rfl))⟩) (.cons (.inl ⟨rfl, (ev_load rfl ag_58 (by first | assumption | exact hS2.cell 1 rfl rfl))⟩) (.skip (by kernel_rfl) .nil)))) ?_
 refine vc_s rfl rfl rfl rfl rfl rfl ?_
 have hC3 := hS2.split [0] [true, false, false, false, false, false, false, false, false] rfl; dsimp only [selF, pickA, nthA, List.cons_append, List.nil_append] at hC3
 refine wl_call cal_40 rfl (frused_sp hC3) rfl ?_
 rintro e w3 ⟨_, rfl, rfl, hS3⟩; refine ⟨_, rfl, ?_⟩
 replace hS3 := hS3.join rfl; dsimp only [List.dropLast, List.cons_append, List.nil_append] at hS3; clear hC3
 clear hS2
 refine vc_e (.cons (.inl ⟨rfl, (ev_load rfl ag_60 (by first | assumption | exact hS3.cell 1 rfl rfl))⟩) (.cons (.inl ⟨rfl, (ev_load rfl ag_3 (by first | assumption | exact hS3.cell 1 rfl rfl))⟩) (.skip (by kernel_rfl) (.skip (by kernel_rfl) .nil)))) ?_
 refine vc_p rfl rfl rfl (fun _ => (ev_sub' rfl rfl (by omega) (by omega))) ?_
 refine vc_p rfl rfl rfl (fun _ => (ev_add rfl rfl (by omega) (by omega))) ?_
 refine vc_s rfl rfl rfl rfl rfl rfl ?_
 have hC4 := hS3.split [5] [false, false, false, false, false, true, false, false, false] rfl; dsimp only [selF, pickA, nthA, List.cons_append, List.nil_append] at hC4
 refine wl_call cal_41 rfl (swused_sp hC4) rfl ?_
 rintro e w4 ⟨_, rfl, rfl, hS4⟩; refine ⟨_, rfl, ?_⟩
 replace hS4 := hS4.join rfl; dsimp only [List.dropLast, List.cons_append, List.nil_append] at hS4; clear hC4
 clear hS3
 refine vc_e (.skip (by kernel_rfl) (.cons (.inl ⟨rfl, (ev_load rfl ag_3 (by first | assumption | exact hS4.cell 2 rfl rfl))⟩) (.skip (by kernel_rfl) (.skip (by kernel_rfl) .nil)))) ?_
 refine vc_p rfl rfl rfl (fun _ => (ev_sub' rfl rfl (by omega) (by omega))) ?_
 refine vc_p rfl rfl rfl (fun _ => (ev_assign rfl)) ?_
 refine VC.nil (qs_seq ?_)
 refine wc_sub (L' := [(2, _)]) (.cons rfl .nil) ?_
 refine wc_ret ?_
 refine fin1 (.inr rfl) rfl rfl ?_
 exact ⟨_, rfl, rfl, shT_shut (hS4.pick [2, 3, 4, 5, 1, 0, 6, 7, 8] rfl)⟩
theorem shfail_sp {w : World} {p : Nat} {S : SS} {F : Th} (hS : Sat w [shT p S, F]) (n : Int) :
    Calls Tryz.prog 36 #[ptrV p 0, intV n] w (Ret fun v w' => v = .tuple #[] ∧ Sat w' [shT p S, F]) := by
 obtain ⟨ba, bi, fp, sp, kp, ac, cc, at2, ct, hS⟩ := shT_open hS
 refine calls_enter Tryz.func36 rfl Tryz.ntmps36 rfl ?_
 refine wc_region (wl_move rfl rfl (wl_nilCheck rfl rfl ?_))
 refine wl_fieldAddr rfl fo_65_4 rfl ?_
 refine wl_load rfl ag_60 (by first | assumption | exact hS.cell 0 rfl rfl) rfl ?_
 refine wl_move rfl rfl ?_
 have hC1 := hS.split [5] [false, false, false, false, false, true, false, false, false] rfl; dsimp only [selF, pickA, nthA, List.cons_append, List.nil_append] at hC1
 refine wl_call cal_72 rfl (swfail_sp hC1 n) rfl ?_
 rintro e w1 ⟨_, rfl, rfl, hS1⟩; refine ⟨_, rfl, ?_⟩
 replace hS1 := hS1.join rfl; dsimp only [List.dropLast, List.cons_append, List.nil_append] at hS1; clear hC1
 refine wl_nil ?_
 refine fin0 (.inl rfl) rfl ?_
 exact ⟨_, rfl, rfl, shT_shut (hS1.pick [1, 2, 3, 4, 5, 0, 6, 7, 8] rfl)⟩
set_option maxRecDepth 100000 in
theorem shgive_sp {w : World} {p : Nat} {S : SS} {F : Th} (hS : Sat w [shT p S, F]) {f : Int} {b0 : Bs} (hf : frAt S.fr f = some b0) (hck : S.ck.length = S.fr.length) (htl : S.taken.length ≤ 900000) :
    Calls Tryz.prog 65 #[ptrV p 0, intV f] w (Ret fun v w' => v = .tuple #[] ∧ Sat w' [shT p (offFrame S f), F]) := by
 obtain ⟨hf0, hfl⟩ := frAt_lt hf
 have hfc : 0 ≤ f ∧ f < (S.ck.length : Int) := by omega
 obtain ⟨ba, bi, fp, sp, kp, ac, cc, at2, ct, hS⟩ := shT_open hS
 refine calls_enter Tryz.func65 rfl Tryz.ntmps65 rfl ?_
 refine wc_seq (wc_region (wl_move rfl rfl (wl_nilCheck rfl rfl ?_)))
 refine wl_fieldAddr rfl fo_65_3 rfl ?_
 refine wl_load rfl ag_58 (by first | assumption | exact hS.cell 0 rfl rfl) rfl ?_
 refine wl_move rfl rfl ?_
 have hC1 := hS.split [4] [false, false, false, false, true, false, false, false, false] rfl; dsimp only [selF, pickA, nthA, List.cons_append, List.nil_append] at hC1
 refine wl_call cal_90 rfl (frfree_sp hC1 f) rfl ?_
 rintro e w1 ⟨_, rfl, _, rfl, hS1⟩; refine ⟨_, rfl, ?_⟩
 replace hS1 := hS1.join rfl; dsimp only [List.dropLast, List.cons_append, List.nil_append] at hS1; clear hC1
 rw [show frFree S.fr f = S.fr.set f.toNat none by unfold frFree; rw [hf]] at hS1
 refine wl_nil (qs_seq (wc_seq (wc_region (wl_move rfl rfl (wl_nilCheck rfl rfl ?_)))))
 refine wl_fieldAddr rfl fo_65_5 rfl ?_
 refine wl_load rfl ag_62 (by first | assumption | exact hS1.cell 1 rfl rfl) rfl ?_
 refine wl_move rfl rfl ?_
 have hC2 := hS1.split [6] [false, false, false, false, false, false, true, false, false] rfl; dsimp only [selF, pickA, nthA, List.cons_append, List.nil_append] at hC2
 refine wl_call cal_91 rfl (ckgoneT hC2 f hfc) rfl ?_
 rintro e w2 ⟨_, rfl, rfl, hS2⟩; refine ⟨_, rfl, ?_⟩
 replace hS2 := hS2.join rfl; dsimp only [List.dropLast, List.cons_append, List.nil_append] at hS2; clear hC2
 clear hS1
 refine wl_nil (qs_seq ?_)
 refine wc_sub (L' := [(0, _), (1, _)]) (.cons rfl (.cons rfl .nil)) ?_
 refine wc_seq (wc_region (wl_move rfl rfl (wl_nilCheck rfl rfl ?_)))
 refine wl_fieldAddr rfl fo_65_1 rfl ?_
 refine wl_load rfl ag_57 (by first | assumption | exact hS2.cell 2 rfl rfl) rfl ?_
 refine wl_move rfl rfl ?_
 refine wl_delete (k := f) 4 hS2 keysInt Tryz.underlying57 rfl rfl rfl rfl ?_
 intro w3 hS3; dsimp only [List.set] at hS3; rw [gI_del] at hS3
 clear hS2
 refine wl_nil (qs_seq (wc_region (wl_move rfl rfl (wl_move rfl rfl (wl_nilCheck rfl rfl ?_)))))
 refine wl_fieldAddr rfl fo_65_9 rfl ?_
 refine wl_load rfl ag_28 (by first | assumption | exact hS3.cell 2 rfl rfl) rfl ?_
 refine wl_move rfl rfl ?_
 refine wl_rowBuild inC [f] hS3 rfl Tryz.underlying28 ifz_3 rfl rfl rfl rfl (by first | rfl | simp [RowC.cells, fillL, splice]) rfl ?_
 intro b4 w4 hS4
 clear hS3
 refine wl_rowApp inC 8 hS4 rfl rfl rfl (hS4.rd 0 rfl (by simp)) Tryz.underlying28 Tryz.underlying28 (by intro k hk; cases hk) ifo_3 rfl (by simp only [List.length_cons, List.length_nil]; omega) rfl (by simp only [List.length_cons, List.length_nil]; omega) ?_
 intro v5 w5 hS5; dsimp only [List.set] at hS5
 clear hS4
 have h1v5 : v5.oneCell' = true := hS5.own_one 8 rfl
 refine wl_nilCheck rfl rfl ?_
 refine wl_fieldAddr rfl fo_65_9 rfl ?_
 first | (refine wl_store hS5 rfl rfl sz_28 (by first | rfl | assumption | exact hS5.own_one 0 rfl | exact hS5.own_one 6 rfl | exact hS5.own_one 8 rfl) (i := 3) rfl (by first | decide | exact Nat.le_of_ble_eq_true rfl | (simp; done) | omega) ?_)
 intro w6 hS7; dsimp only [List.set] at hS7
 clear hS5
 refine wl_nil ?_
 refine fin0 (.inl rfl) rfl ?_
 exact ⟨_, rfl, rfl, shT_shut (S := offFrame S f) (hS7.pick [3, 4, 5, 6, 2, 7, 1, 8, 9] rfl)⟩
theorem sumF_step {A : Int → Option ShE} {l : List Int} {i : Nat} {j : Int} {x : ShE} (hj : l[i]? = some j) (hx : A j = some x) (hp : x.place = 2) : sumF A (l.take (i + 1)) = sumF A (l.take i) + (fmE x).length := by
  rw [List.take_add_one, hj]
  unfold sumF
  simp only [Option.toList_some, List.map_append, List.map_cons, List.map_nil, List.sum_append, List.sum_cons, List.sum_nil]
  unfold fmL fmE
  rw [hx, if_pos hp]; rfl
theorem sumF_drop {A : Int → Option ShE} {l : List Int} {i : Nat} {j : Int} {x : ShE} (hj : l[i]? = some j) (hx : A j = some x) (hp : x.place = 2) : sumF A (l.drop i) = (fmE x).length + sumF A (l.drop (i + 1)) := by
  obtain ⟨hi, he⟩ := List.getElem?_eq_some_iff.1 hj
  rw [List.drop_eq_getElem_cons hi, he]
  unfold sumF
  rw [List.map_cons, List.sum_cons]
  unfold fmL fmE
  rw [hx, if_pos hp]
theorem fm_le (p : Bs) : (fm p).length ≤ 47 := by
  unfold fm
  cases h : packM p with
  | none => simp
  | some f => exact (packM_le h).1
theorem sumF_le (A : Int → Option ShE) : ∀ l : List Int, sumF A l ≤ 47 * l.length
  | [] => by simp [sumF]
  | j :: l => by
    have h1 := sumF_le A l
    unfold sumF at h1 ⊢
    rw [List.map_cons, List.sum_cons, List.length_cons]
    have : fmL A j ≤ 47 := by
      unfold fmL
      cases A j with
      | none => simp
      | some x => exact fm_le x.pg
    omega
set_option maxRecDepth 100000 in
theorem shpacked_sp {w : World} {p : Nat} {S : SS} {F : Th} (hS : Sat w [shT p S, F]) {E : Int → Prop} {N : Nat} (hI : ShI E N S) (hN : N ≤ 900000) :
    Calls Tryz.prog 104 #[ptrV p 0] w (Ret fun v w' => v = intV ((sumF S.all S.cache : Nat) : Int) ∧ Sat w' [shT p S, F]) := by
 have hcl := hI.cln
 obtain ⟨ba, bi, fp, sp, kp, ac, cc, at2, ct, hS⟩ := shT_open hS
 refine calls_enter Tryz.func104 rfl Tryz.ntmps104 rfl ?_
 refine wc_seq (wc_region (wl_assign rfl rfl (wl_nil (qs_seq (wc_seq (wc_region (wl_assign rfl rfl (wl_nil (qs_seq (wc_seq (wc_seq (wc_region (wl_move rfl rfl (wl_nilCheck rfl rfl ?_))))))))))))))
 refine wl_fieldAddr rfl fo_65_2 rfl ?_
 refine wl_load rfl ag_28 (by first | assumption | exact hS.cell 0 rfl rfl) rfl ?_
 first | refine wl_lenL Tryz.underlying28 rfl rfl ?_ | refine wl_lenO 3 hS Tryz.underlying28 rfl rfl rfl ?_ | refine wl_lenO 7 hS Tryz.underlying28 rfl rfl rfl ?_
 refine wl_move rfl rfl (wl_nil (qs_seq (wc_block ?_)))
 refine wc_loop (fun K0 E0 W0 => ∃ (i : Nat), K0 = S.cache.length - i ∧ E0 = [(0, ptrV p 0), (3, intV ((sumF S.all (S.cache.take i) : Nat) : Int)), (9, .slice ac S.cache.length cc), (10, intV (S.cache.length : Int)), (11, intV (i : Int))] ∧ Sat W0 [blkT p [.map (some ba), .map (some bi), .slice ac S.cache.length cc, ptrV fp 0, ptrV sp 0, ptrV kp 0, intV S.slots, intV S.budget, intV S.next, .slice at2 S.taken.length ct], mapT intK ba (aG S.all), mapT intK bi (gI S.inn), rowT inC (.slice ac S.cache.length cc) S.cache, frT fp S.fr, swT sp S.sl, ckT kp S.ck, rowT inC (.slice at2 S.taken.length ct) S.taken, F] ∧ (i ≤ S.cache.length)) (L0 := [(0, _), (3, _), (9, _), (10, _), (11, _)]) (S.cache.length - 0) (.cons rfl (.cons rfl (.cons rfl (.cons rfl (.cons rfl .nil))))) ⟨0, rfl, rfl, hS, by omega⟩ ?_
 rintro _ _ w1 ⟨i, rfl, rfl, hS1, hi⟩
 refine wc_seq (wc_region ?_)
 refine wl_lss rfl rfl rfl ?_
 refine wl_nil (qs_seq (wc_seq ?_))
 refine wc_condD rfl (fun h2 => ?_) (fun h2 => ?_)
 ·obtain ⟨j, hj⟩ : ∃ j, S.cache[i]? = some j := ⟨_, List.getElem?_eq_getElem (by omega)⟩
  obtain ⟨_, x, hx, hp⟩ := hI.cch (List.mem_of_getElem? hj)
  have hsl := sumF_le S.all (S.cache.take i)
  have htl := List.length_take_le i S.cache
  have hfl : (fmE x).length ≤ 47 := by unfold fmE; rw [if_pos hp]; exact fm_le x.pg
  refine wc_skip (qs_seq (wc_seq (wc_block (wc_seq (wc_region ?_)))))
  refine wl_rowIdx inC 3 i hS1 rfl rfl rfl (by first | rfl | omega) hj es_28 rfl ?_
  intro bx3 capx3 hvx3
  refine wl_rowLoad 3 i 0 hS1 rfl hvx3 rfl rfl hj ag_3 rfl rfl ?_
  refine wl_assign rfl rfl (wl_nil (qs_seq (wc_region (wl_move rfl rfl (wl_move rfl rfl (wl_nilCheck rfl rfl ?_))))))
  refine wl_fieldAddr rfl fo_65_0 rfl ?_
  refine wl_load rfl ag_56 (by first | assumption | exact hS1.cell 0 rfl rfl) rfl ?_
  refine wl_move rfl rfl ?_
  refine wl_lookup (k := j) 1 hS1 keysInt Tryz.underlying56 rfl rfl rfl zr_76 (u := (.agg #[intV x.refs, intV x.place, intV x.at_, strV (fmE x)])) (aG_some hx) rfl ?_
  refine wl_field fv_76_3 rfl rfl rfl ?_
  refine wl_lenS Tryz.underlying9 rfl rfl ?_
  refine wl_add rfl rfl (by omega) (by omega) rfl ?_
  refine wl_assign rfl rfl (wl_nil (qs_block_normal (qs_seq ?_)))
  refine wc_sub (L' := [(3, _), (0, _), (9, _), (10, _), (11, _)]) (.cons rfl (.cons rfl (.cons rfl (.cons rfl (.cons rfl .nil))))) ?_
  refine wc_region ?_
  refine wl_add rfl rfl (by omega) (by omega) rfl ?_
  refine wl_move rfl rfl (wl_nil ?_)
  exact qs_round (L1 := [(0, _), (3, intV ((sumF S.all (S.cache.take (i + 1)) : Nat) : Int)), (9, _), (10, _), (11, intV ((i + 1 : Nat) : Int))]) (by rw [sumF_step hj hx hp]; exact (.cons rfl (.cons rfl (.cons rfl (.cons rfl (.cons rfl .nil)))))) (k1 := S.cache.length - (i + 1)) (by omega) ⟨i + 1, rfl, rfl, hS1.pick [0, 1, 2, 3, 4, 5, 6, 7, 8] rfl, by omega⟩
 refine wc_exit (qs_then_exit (qs_then_exit (qs_block_exit (qs_seq (wc_seq (wc_region (wl_move rfl rfl (wl_assign rfl rfl (wl_nil (qs_seq (wc_ret ?_)))))))))))
 refine fin1 (.inr rfl) rfl rfl ?_
 exact ⟨_, rfl, by rw [List.take_of_length_le (by omega)], shT_shut (hS1.pick [0, 1, 2, 3, 4, 5, 6, 7, 8] rfl)⟩
end Go.Proofs.YtnicmcdeoimhlaaGreat
