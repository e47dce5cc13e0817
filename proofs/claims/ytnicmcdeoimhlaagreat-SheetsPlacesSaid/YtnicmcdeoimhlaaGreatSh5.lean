/- sheets: the store; giveUp, packed and what tells -/
import Derived.Test.YtnicmcdeoimhlaaGreatCk2
import Derived.Test.YtnicmcdeoimhlaaGreatRow
namespace Go.Proofs.YtnicmcdeoimhlaaGreat
open Go.RowKit M
set_option linter.unusedVariables false
def fmE (x : ShE) : Bs := if x.place = 2 then fm x.pg else []
def shV (x : ShE) : Value := .agg #[intV x.refs, intV x.place, intV x.at_, strV (fmE x)]
def aG (A : Int → Option ShE) : Int → Option Value := fun k => (A k).map shV
theorem aG_some {A : Int → Option ShE} {k : Int} {x : ShE} {z : Value} (h : A k = some x) : (aG A k).getD z = .agg #[intV x.refs, intV x.place, intV x.at_, strV (fmE x)] := by unfold aG; rw [h]; rfl
theorem aG_some2 {A : Int → Option ShE} {k : Int} {x : ShE} (h : A k = some x) : (aG A k).isSome = true := by unfold aG; rw [h]; rfl
theorem aG_none {A : Int → Option ShE} {k : Int} {z : Value} (h : A k = none) : (aG A k).getD z = z := by unfold aG; rw [h]; rfl
theorem aG_none2 {A : Int → Option ShE} {k : Int} (h : A k = none) : (aG A k).isSome = false := by unfold aG; rw [h]; rfl
theorem aG_up (A : Int → Option ShE) (k : Int) (x : ShE) : upd (aG A) k (some (shV x)) = aG (up A k (some x)) := by
  funext j
  by_cases h : j = k
  · subst h; rw [upd_self]; unfold aG; rw [up_self]; rfl
  · rw [upd_ne h]; unfold aG; rw [up_ne h]
theorem aG_del (A : Int → Option ShE) (k : Int) : upd (aG A) k none = aG (up A k none) := by
  funext j
  by_cases h : j = k
  · subst h; rw [upd_self]; unfold aG; rw [up_self]; rfl
  · rw [upd_ne h]; unfold aG; rw [up_ne h]
theorem gI_del (g : Int → Option Int) (k : Int) : upd (gI g) k none = gI (up g k none) := by
  funext j
  by_cases h : j = k
  · subst h; rw [upd_self]; unfold gI; rw [up_self]; rfl
  · rw [upd_ne h]; unfold gI; rw [up_ne h]
structure ShX where
  ba : Nat
  bi : Nat
  fp : Nat
  sp : Nat
  kp : Nat
  cv : Value
  tv : Value
def shT (p : Nat) (S : SS) : Th := exT fun q : ShX => starL [blkT p [.map (some q.ba), .map (some q.bi), q.cv, ptrV q.fp 0, ptrV q.sp 0, ptrV q.kp 0, intV S.slots, intV S.budget, intV S.next, q.tv], mapT intK q.ba (aG S.all), mapT intK q.bi (gI S.inn), rowT inC q.cv S.cache, frT q.fp S.fr, swT q.sp S.sl, ckT q.kp S.ck, rowT inC q.tv S.taken]
theorem shT_open {w : World} {p : Nat} {S : SS} {As : List Th} (h : Sat w (shT p S :: As)) : ∃ ba bi fp sp kp ac cc at2 ct, Sat w (blkT p [.map (some ba), .map (some bi), .slice ac S.cache.length cc, ptrV fp 0, ptrV sp 0, ptrV kp 0, intV S.slots, intV S.budget, intV S.next, .slice at2 S.taken.length ct] :: mapT intK ba (aG S.all) :: mapT intK bi (gI S.inn) :: rowT inC (.slice ac S.cache.length cc) S.cache :: frT fp S.fr :: swT sp S.sl :: ckT kp S.ck :: rowT inC (.slice at2 S.taken.length ct) S.taken :: As) := by
  obtain ⟨⟨ba, bi, fp, sp, kp, cv, tv⟩, h⟩ := h.ex
  replace h := h.flat
  obtain ⟨ac, cc, hv, _⟩ := Sat.own_shape (As := blkT p _ :: mapT intK ba (aG S.all) :: mapT intK bi (gI S.inn) :: rowT inC cv S.cache :: frT fp S.fr :: swT sp S.sl :: ckT kp S.ck :: rowT inC tv S.taken :: As) h 3 rfl
  obtain rfl := hv
  obtain ⟨at2, ct, hv, _⟩ := Sat.own_shape (As := blkT p _ :: mapT intK ba (aG S.all) :: mapT intK bi (gI S.inn) :: rowT inC _ S.cache :: frT fp S.fr :: swT sp S.sl :: ckT kp S.ck :: rowT inC tv S.taken :: As) h 7 rfl
  obtain rfl := hv
  exact ⟨ba, bi, fp, sp, kp, ac, cc, at2, ct, h⟩
theorem shT_shut {w : World} {p : Nat} {S : SS} {As : List Th} {ba bi fp sp kp : Nat} {cv tv : Value} (h : Sat w (blkT p [.map (some ba), .map (some bi), cv, ptrV fp 0, ptrV sp 0, ptrV kp 0, intV S.slots, intV S.budget, intV S.next, tv] :: mapT intK ba (aG S.all) :: mapT intK bi (gI S.inn) :: rowT inC cv S.cache :: frT fp S.fr :: swT sp S.sl :: ckT kp S.ck :: rowT inC tv S.taken :: As)) : Sat w (shT p S :: As) :=
  Sat.ex_intro (f := fun q : ShX => starL [blkT p [.map (some q.ba), .map (some q.bi), q.cv, ptrV q.fp 0, ptrV q.sp 0, ptrV q.kp 0, intV S.slots, intV S.budget, intV S.next, q.tv], mapT intK q.ba (aG S.all), mapT intK q.bi (gI S.inn), rowT inC q.cv S.cache, frT q.fp S.fr, swT q.sp S.sl, ckT q.kp S.ck, rowT inC q.tv S.taken]) ⟨ba, bi, fp, sp, kp, cv, tv⟩
    (Sat.fold (As := [blkT p _, mapT intK ba (aG S.all), mapT intK bi (gI S.inn), rowT inC cv S.cache, frT fp S.fr, swT sp S.sl, ckT kp S.ck, rowT inC tv S.taken]) h)
set_option maxRecDepth 100000 in
theorem cloneI_sp {w : World} {F : Th} (hS : Sat w [F]) {lv : Value} {l : List Int} (hL : Ent F (RdL inC lv l)) (hln : l.length ≤ 1000000) :
    Calls Tryz.prog 55 #[lv] w (Ret fun v w' => Sat w' [rowT inC v l, F]) := by
 obtain ⟨ao, cap, rfl, hmax⟩ := (hL.sat hS 0 rfl).shape
 refine calls_enter Tryz.func55 rfl Tryz.ntmps55 rfl ?_
 refine wc_seq (wc_region (wl_assign rfl rfl (wl_nil (qs_seq (wc_seq (wc_seq (wc_region (wl_move rfl rfl ?_))))))))
 refine wl_eqlSlNil Tryz.underlying28 rfl rfl rfl ?_
 refine wl_nil (qs_seq ?_)
 refine wc_cond rfl (fun h1 => ?_) (fun h1 => ?_)
 ·refine wc_seq (wc_region (wl_assign rfl rfl (wl_nil (qs_seq (wc_ret (qs_then_ret ?_))))))
  refine fin1 (.inr rfl) rfl rfl ?_
  obtain rfl := Option.isNone_iff_eq_none.1 (by assumption : ao.isNone = true)
  have hnl : l = [] := (hL.sat hS 0 rfl).isNil
  exact ⟨_, rfl, by rw [hnl]; exact (hS.pick [0] rfl).row_nil inC⟩
 refine wc_skip (qs_seq (wc_seq (wc_region ?_)))
 refine wl_rowBuild inC [] hS rfl Tryz.underlying28 ifz_3 rfl rfl rfl rfl (by first | rfl | simp [RowC.cells, fillL, splice]) rfl ?_
 intro b2 w2 hS2
 refine wl_move rfl rfl ?_
 refine wl_rowApp inC 0 hS2 rfl rfl rfl (hL.sat hS2 1 rfl) Tryz.underlying28 Tryz.underlying28 (by intro k hk; cases hk) ifo_3 rfl (by simp only [List.length_nil]; omega) rfl (by simp only [List.length_nil]; omega) ?_
 intro v3 w3 hS3; dsimp only [List.set] at hS3
 clear hS2
 have h1v3 : v3.oneCell' = true := hS3.own_one 0 rfl
 refine wl_assign rfl rfl (wl_nil (qs_seq (wc_ret ?_)))
 refine fin1 (.inr rfl) rfl rfl ?_
 exact ⟨_, rfl, hS3.pick [0, 1] rfl⟩
theorem shplace_sp {w : World} {p : Nat} {S : SS} {F : Th} (hS : Sat w [shT p S, F]) (id : Int) :
    Calls Tryz.prog 19 #[ptrV p 0, intV id] w (Ret fun v w' => v = (match S.all id with | none => intV 0 | some x => intV x.place) ∧ Sat w' [shT p S, F]) := by
 obtain ⟨ba, bi, fp, sp, kp, ac, cc, at2, ct, hS⟩ := shT_open hS
 cases hid : S.all id with
 | none =>
  refine calls_enter Tryz.func19 rfl Tryz.ntmps19 rfl ?_
  refine wc_seq (wc_region (wl_assign rfl rfl (wl_nil (qs_seq (wc_seq (wc_region (wl_move rfl rfl (wl_nilCheck rfl rfl ?_))))))))
  refine wl_fieldAddr rfl fo_65_0 rfl ?_
  refine wl_load rfl ag_56 (by first | assumption | exact hS.cell 0 rfl rfl) rfl ?_
  refine wl_move rfl rfl ?_
  refine wl_lookup (k := id) 1 hS keysInt Tryz.underlying56 rfl rfl rfl zr_76 (u := (.agg #[intV 0, intV 0, intV 0, strV []])) (aG_none hid) rfl ?_
  refine wl_field fv_76_1 rfl rfl rfl ?_
  refine wl_assign rfl rfl (wl_nil (qs_seq (wc_ret ?_)))
  refine fin1 (.inr rfl) rfl rfl ?_
  exact ⟨_, rfl, rfl, shT_shut (hS.pick [0, 1, 2, 3, 4, 5, 6, 7, 8] rfl)⟩
 | some x =>
  refine calls_enter Tryz.func19 rfl Tryz.ntmps19 rfl ?_
  refine wc_seq (wc_region (wl_assign rfl rfl (wl_nil (qs_seq (wc_seq (wc_region (wl_move rfl rfl (wl_nilCheck rfl rfl ?_))))))))
  refine wl_fieldAddr rfl fo_65_0 rfl ?_
  refine wl_load rfl ag_56 (by first | assumption | exact hS.cell 0 rfl rfl) rfl ?_
  refine wl_move rfl rfl ?_
  refine wl_lookup (k := id) 1 hS keysInt Tryz.underlying56 rfl rfl rfl zr_76 (u := (.agg #[intV x.refs, intV x.place, intV x.at_, strV (fmE x)])) (aG_some hid) rfl ?_
  refine wl_field fv_76_1 rfl rfl rfl ?_
  refine wl_assign rfl rfl (wl_nil (qs_seq (wc_ret ?_)))
  refine fin1 (.inr rfl) rfl rfl ?_
  exact ⟨_, rfl, rfl, shT_shut (hS.pick [0, 1, 2, 3, 4, 5, 6, 7, 8] rfl)⟩
theorem shframe_sp {w : World} {p : Nat} {S : SS} {F : Th} (hS : Sat w [shT p S, F]) (id : Int) :
    Calls Tryz.prog 18 #[ptrV p 0, intV id] w (Ret fun v w' => v = (match S.all id with | none => .tuple #[intV 0, .bool false] | some x => (if x.place = 1 then .tuple #[intV x.at_, .bool true] else .tuple #[intV 0, .bool false])) ∧ Sat w' [shT p S, F]) := by
 obtain ⟨ba, bi, fp, sp, kp, ac, cc, at2, ct, hS⟩ := shT_open hS
 cases hid : S.all id with
 | none =>
  refine calls_enter Tryz.func18 rfl Tryz.ntmps18 rfl ?_
  refine wc_seq (wc_region (wl_assign rfl rfl (wl_assign rfl rfl (wl_nil (qs_seq (wc_seq (wc_region (wl_move rfl rfl (wl_nilCheck rfl rfl ?_)))))))))
  refine wl_fieldAddr rfl fo_65_0 rfl ?_
  refine wl_load rfl ag_56 (by first | assumption | exact hS.cell 0 rfl rfl) rfl ?_
  refine wl_move rfl rfl ?_
  refine wl_lookup (k := id) 1 hS keysInt Tryz.underlying56 rfl rfl rfl zr_76 (u := (.agg #[intV 0, intV 0, intV 0, strV []])) (aG_none hid) rfl ?_
  refine wl_alloc hS zr_76 rfl rfl ?_
  intro b1 w1 hS1
  first | (refine wl_storeA hS1 rfl rfl sz_76 rfl (by first | rfl | (simp [allOne, Value.oneCell']; done) | assumption | exact hone) (i := 0) rfl (by first | decide | exact Nat.le_of_ble_eq_true rfl | (simp; done) | omega) ?_) | (refine wl_storeA hS1 rfl rfl sz_76 rfl (by first | rfl | (simp [allOne, Value.oneCell']; done) | assumption | exact hone) (i := 1) rfl (by first | decide | exact Nat.le_of_ble_eq_true rfl | (simp; done) | omega) ?_)
  intro w2 hS3; dsimp only [List.set] at hS3
  clear hS1
  refine wl_nil (qs_seq ?_)
  refine wc_sub (L' := [(6, _), (5, _), (4, _)]) (.cons rfl (.cons rfl (.cons rfl .nil))) ?_
  refine wc_seq (wc_seq (wc_region ?_))
  refine wl_fieldAddr rfl fo_76_1 rfl ?_
  refine wl_load rfl ag_3 (by first | assumption | exact hS3.cell 0 rfl rfl | exact hS3.cell 1 rfl rfl) rfl ?_
  refine wl_neq rfl rfl rfl ?_
  refine wl_nil (qs_seq ?_)
  refine wc_condD rfl (fun h4 => ?_) (fun h4 => ?_)
  ·refine wc_seq (wc_region (wl_assign rfl rfl (wl_assign rfl rfl (wl_nil (qs_seq (wc_ret (qs_then_ret ?_)))))))
   refine fin2 (.inr rfl) rfl rfl rfl ?_
   exact ⟨_, rfl, rfl, shT_shut (hS3.pick [1, 2, 3, 4, 5, 6, 7, 8, 9] rfl)⟩
  exact absurd (by decide) h4
 | some x =>
  refine calls_enter Tryz.func18 rfl Tryz.ntmps18 rfl ?_
  refine wc_seq (wc_region (wl_assign rfl rfl (wl_assign rfl rfl (wl_nil (qs_seq (wc_seq (wc_region (wl_move rfl rfl (wl_nilCheck rfl rfl ?_)))))))))
  refine wl_fieldAddr rfl fo_65_0 rfl ?_
  refine wl_load rfl ag_56 (by first | assumption | exact hS.cell 0 rfl rfl) rfl ?_
  refine wl_move rfl rfl ?_
  refine wl_lookup (k := id) 1 hS keysInt Tryz.underlying56 rfl rfl rfl zr_76 (u := (.agg #[intV x.refs, intV x.place, intV x.at_, strV (fmE x)])) (aG_some hid) rfl ?_
  refine wl_alloc hS zr_76 rfl rfl ?_
  intro b1 w1 hS1
  first | (refine wl_storeA hS1 rfl rfl sz_76 rfl (by first | rfl | (simp [allOne, Value.oneCell']; done) | assumption | exact hone) (i := 0) rfl (by first | decide | exact Nat.le_of_ble_eq_true rfl | (simp; done) | omega) ?_) | (refine wl_storeA hS1 rfl rfl sz_76 rfl (by first | rfl | (simp [allOne, Value.oneCell']; done) | assumption | exact hone) (i := 1) rfl (by first | decide | exact Nat.le_of_ble_eq_true rfl | (simp; done) | omega) ?_)
  intro w2 hS3; dsimp only [List.set] at hS3
  clear hS1
  refine wl_nil (qs_seq ?_)
  refine wc_sub (L' := [(6, _), (5, _), (4, _)]) (.cons rfl (.cons rfl (.cons rfl .nil))) ?_
  refine wc_seq (wc_seq (wc_region ?_))
  refine wl_fieldAddr rfl fo_76_1 rfl ?_
  refine wl_load rfl ag_3 (by first | assumption | exact hS3.cell 0 rfl rfl | exact hS3.cell 1 rfl rfl) rfl ?_
  refine wl_neq rfl rfl rfl ?_
  refine wl_nil (qs_seq ?_)
  refine wc_condD rfl (fun h4 => ?_) (fun h4 => ?_)
  ·refine wc_seq (wc_region (wl_assign rfl rfl (wl_assign rfl rfl (wl_nil (qs_seq (wc_ret (qs_then_ret ?_)))))))
   refine fin2 (.inr rfl) rfl rfl rfl ?_
   exact ⟨_, rfl, by dsimp only; rw [if_neg (by omega)], shT_shut (hS3.pick [1, 2, 3, 4, 5, 6, 7, 8, 9] rfl)⟩
  refine wc_skip (qs_seq (wc_seq (wc_region ?_)))
  refine wl_fieldAddr rfl fo_76_2 rfl ?_
  refine wl_load rfl ag_3 (by first | assumption | exact hS3.cell 0 rfl rfl | exact hS3.cell 1 rfl rfl) rfl ?_
  refine wl_assign rfl rfl (wl_assign rfl rfl (wl_nil (qs_seq (wc_ret ?_))))
  refine fin2 (.inr rfl) rfl rfl rfl ?_
  exact ⟨_, rfl, by dsimp only; rw [if_pos (by omega)], shT_shut (hS3.pick [1, 2, 3, 4, 5, 6, 7, 8, 9] rfl)⟩
set_option maxRecDepth 100000 in
theorem shroom_sp {w : World} {p : Nat} {S : SS} {F : Th} (hS : Sat w [shT p S, F]) {E : Int → Prop} {N : Nat} (hI : ShI E N S) :
    Calls Tryz.prog 16 #[ptrV p 0] w (Ret fun v w' => v = intV ((S.fr.length : Int) - (usedF S.fr : Int) + S.slots - (usedN S.sl : Int)) ∧ Sat w' [shT p S, F]) := by
 have h1 := usedF_le S.fr
 have h2 := usedN_le S.sl
 have h3 := hI.fr2
 have h4 := hI.sl2
 have h5 := hI.slo
 obtain ⟨ba, bi, fp, sp, kp, ac, cc, at2, ct, hS⟩ := shT_open hS
 refine calls_enter Tryz.func16 rfl Tryz.ntmps16 rfl ?_
 refine wc_seq (wc_region (wl_assign rfl rfl (wl_nil (qs_seq (wc_seq ?_)))))
 have hS1 := hS.drew
 refine wc_draw [0, 1, 2, 3, 5, 6, 7, 8, 11, 12, 13, 14, 16, 17, 18, 19, 4, 9, 10, 15, 20, 21, 22] [4, 9, 20] mix (by kernel_rfl) ?_
 refine vc_p rfl rfl rfl (fun _ => (ev_move rfl)) ?_
 refine vc_p rfl rfl rfl (fun _ => (ev_nilCheck rfl)) ?_
 refine vc_p rfl rfl rfl (fun _ => (ev_fieldAddr rfl fo_65_3)) ?_
 refine vc_q rfl rfl rfl (ev_load rfl ag_58 (by first | assumption | exact hS1.cell 0 rfl rfl)) ?_
 refine vc_p rfl rfl rfl (fun _ => (ev_move rfl)) ?_
 refine vc_p rfl rfl rfl (fun _ => (ev_nilCheck rfl)) ?_
 refine vc_p rfl rfl rfl (fun _ => (ev_fieldAddr rfl fo_65_3)) ?_
 refine vc_q rfl rfl rfl (ev_load rfl ag_58 (by first | assumption | exact hS1.cell 0 rfl rfl)) ?_
 refine vc_p rfl rfl rfl (fun _ => (ev_move rfl)) ?_
 refine vc_p rfl rfl rfl (fun _ => (ev_nilCheck rfl)) ?_
 refine vc_p rfl rfl rfl (fun _ => (ev_fieldAddr rfl fo_65_6)) ?_
 refine vc_q rfl rfl rfl (ev_load rfl ag_3 (by first | assumption | exact hS1.cell 0 rfl rfl)) ?_
 refine vc_p rfl rfl rfl (fun _ => (ev_move rfl)) ?_
 refine vc_p rfl rfl rfl (fun _ => (ev_nilCheck rfl)) ?_
 refine vc_p rfl rfl rfl (fun _ => (ev_fieldAddr rfl fo_65_4)) ?_
 refine vc_q rfl rfl rfl (ev_load rfl ag_60 (by first | assumption | exact hS1.cell 0 rfl rfl)) ?_
 refine vc_s rfl rfl rfl rfl rfl rfl ?_
 have hC2 := hS1.split [4] [false, false, false, false, true, false, false, false, false] rfl; dsimp only [selF, pickA, nthA, List.cons_append, List.nil_append] at hC2
 refine wl_call cal_39 rfl (frsize_sp hC2) rfl ?_
 rintro e w2 ⟨_, rfl, rfl, hS2⟩; refine ⟨_, rfl, ?_⟩
 replace hS2 := hS2.join rfl; dsimp only [List.dropLast, List.cons_append, List.nil_append] at hS2; clear hC2
 clear hS1
 refine vc_e (.cons (.inl ⟨rfl, (ev_load rfl ag_60 (by first | assumption | exact hS2.cell 1 rfl rfl))⟩) (.cons (.inl ⟨rfl, (ev_load rfl ag_3 (by first | assumption | exact hS2.cell 1 rfl rfl))⟩) (.cons (.inl ⟨rfl, (ev_load rfl ag_58 (by first | assumption | exact hS2.cell 1 rfl rfl))⟩) (.skip (by kernel_rfl) .nil)))) ?_
 refine vc_s rfl rfl rfl rfl rfl rfl ?_
 have hC3 := hS2.split [0] [true, false, false, false, false, false, false, false, false] rfl; dsimp only [selF, pickA, nthA, List.cons_append, List.nil_append] at hC3
 refine wl_call cal_40 rfl (frused_sp hC3) rfl ?_
 rintro e w3 ⟨_, rfl, rfl, hS3⟩; refine ⟨_, rfl, ?_⟩
 replace hS3 := hS3.join rfl; dsimp only [List.dropLast, List.cons_append, List.nil_append] at hS3; clear hC3
 clear hS2
 refine vc_e (.cons (.inl ⟨rfl, (ev_load rfl ag_60 (by first | assumption | exact hS3.cell 1 rfl rfl))⟩) (.cons (.inl ⟨rfl, (ev_load rfl ag_3 (by first | assumption | exact hS3.cell 1 rfl rfl))⟩) (.skip (by kernel_rfl) (.skip (by kernel_rfl) .nil)))) ?_
 refine vc_p rfl rfl rfl (fun _ => (ev_sub' rfl rfl (by omega) (by omega))) ?_
 refine vc_p rfl rfl rfl (fun _ => (ev_add rfl rfl (by omega) (by omega))) ?_
 refine vc_s rfl rfl rfl rfl rfl rfl ?_
 have hC4 := hS3.split [5] [false, false, false, false, false, true, false, false, false] rfl; dsimp only [selF, pickA, nthA, List.cons_append, List.nil_append] at hC4
 refine wl_call cal_41 rfl (swused_sp hC4) rfl ?_
 rintro e w4 ⟨_, rfl, rfl, hS4⟩; refine ⟨_, rfl, ?_⟩
 replace hS4 := hS4.join rfl; dsimp only [List.dropLast, List.cons_append, List.nil_append] at hS4; clear hC4
 clear hS3
 refine vc_e (.skip (by kernel_rfl) (.cons (.inl ⟨rfl, (ev_load rfl ag_3 (by first | assumption | exact hS4.cell 2 rfl rfl))⟩) (.skip (by kernel_rfl) (.skip (by kernel_rfl) .nil)))) ?_
 refine vc_p rfl rfl rfl (fun _ => (ev_sub' rfl rfl (by omega) (by omega))) ?_
 refine vc_p rfl rfl rfl (fun _ => (ev_assign rfl)) ?_
 refine VC.nil (qs_seq ?_)
 refine wc_sub (L' := [(2, _)]) (.cons rfl .nil) ?_
 refine wc_ret ?_
 refine fin1 (.inr rfl) rfl rfl ?_
 exact ⟨_, rfl, rfl, shT_shut (hS4.pick [2, 3, 4, 5, 1, 0, 6, 7, 8] rfl)⟩
theorem shfail_sp {w : World} {p : Nat} {S : SS} {F : Th} (hS : Sat w [shT p S, F]) (n : Int) :
    Calls Tryz.prog 36 #[ptrV p 0, intV n] w (Ret fun v w' => v = .tuple #[] ∧ Sat w' [shT p S, F]) := by
 obtain ⟨ba, bi, fp, sp, kp, ac, cc, at2, ct, hS⟩ := shT_open hS
 refine calls_enter Tryz.func36 rfl Tryz.ntmps36 rfl ?_
 refine wc_region (wl_move rfl rfl (wl_nilCheck rfl rfl ?_))
 refine wl_fieldAddr rfl fo_65_4 rfl ?_
 refine wl_load rfl ag_60 (by first | assumption | exact hS.cell 0 rfl rfl) rfl ?_
 refine wl_move rfl rfl ?_
 have hC1 := hS.split [5] [false, false, false, false, false, true, false, false, false] rfl; dsimp only [selF, pickA, nthA, List.cons_append, List.nil_append] at hC1
 refine wl_call cal_72 rfl (swfail_sp hC1 n) rfl ?_
 rintro e w1 ⟨_, rfl, rfl, hS1⟩; refine ⟨_, rfl, ?_⟩
 replace hS1 := hS1.join rfl; dsimp only [List.dropLast, List.cons_append, List.nil_append] at hS1; clear hC1
 refine wl_nil ?_
 refine fin0 (.inl rfl) rfl ?_
 exact ⟨_, rfl, rfl, shT_shut (hS1.pick [1, 2, 3, 4, 5, 0, 6, 7, 8] rfl)⟩
set_option maxRecDepth 100000 in
theorem shgive_sp {w : World} {p : Nat} {S : SS} {F : Th} (hS : Sat w [shT p S, F]) {f : Int} {b0 : Bs} (hf : frAt S.fr f = some b0) (hck : S.ck.length = S.fr.length) (htl : S.taken.length ≤ 900000) :
    Calls Tryz.prog 65 #[ptrV p 0, intV f] w (Ret fun v w' => v = .tuple #[] ∧ Sat w' [shT p (offFrame S f), F]) := by
 obtain ⟨hf0, hfl⟩ := frAt_lt hf
 have hfc : 0 ≤ f ∧ f < (S.ck.length : Int) := by omega
 obtain ⟨ba, bi, fp, sp, kp, ac, cc, at2, ct, hS⟩ := shT_open hS
 refine calls_enter Tryz.func65 rfl Tryz.ntmps65 rfl ?_
 refine wc_seq (wc_region (wl_move rfl rfl (wl_nilCheck rfl rfl ?_)))
 refine wl_fieldAddr rfl fo_65_3 rfl ?_
 refine wl_load rfl ag_58 (by first | assumption | exact hS.cell 0 rfl rfl) rfl ?_
 refine wl_move rfl rfl ?_
 have hC1 := hS.split [4] [false, false, false, false, true, false, false, false, false] rfl; dsimp only [selF, pickA, nthA, List.cons_append, List.nil_append] at hC1
 refine wl_call cal_90 rfl (frfree_sp hC1 f) rfl ?_
 rintro e w1 ⟨_, rfl, _, rfl, hS1⟩; refine ⟨_, rfl, ?_⟩
 replace hS1 := hS1.join rfl; dsimp only [List.dropLast, List.cons_append, List.nil_append] at hS1; clear hC1
 rw [show frFree S.fr f = S.fr.set f.toNat none by unfold frFree; rw [hf]] at hS1
 refine wl_nil (qs_seq (wc_seq (wc_region (wl_move rfl rfl (wl_nilCheck rfl rfl ?_)))))
 refine wl_fieldAddr rfl fo_65_5 rfl ?_
 refine wl_load rfl ag_62 (by first | assumption | exact hS1.cell 1 rfl rfl) rfl ?_
 refine wl_move rfl rfl ?_
 have hC2 := hS1.split [6] [false, false, false, false, false, false, true, false, false] rfl; dsimp only [selF, pickA, nthA, List.cons_append, List.nil_append] at hC2
 refine wl_call cal_91 rfl (ckgoneT hC2 f hfc) rfl ?_
 rintro e w2 ⟨_, rfl, rfl, hS2⟩; refine ⟨_, rfl, ?_⟩
 replace hS2 := hS2.join rfl; dsimp only [List.dropLast, List.cons_append, List.nil_append] at hS2; clear hC2
 clear hS1
 refine wl_nil (qs_seq ?_)
 refine wc_sub (L' := [(0, _), (1, _)]) (.cons rfl (.cons rfl .nil)) ?_
 refine wc_seq (wc_region (wl_move rfl rfl (wl_nilCheck rfl rfl ?_)))
 refine wl_fieldAddr rfl fo_65_1 rfl ?_
 refine wl_load rfl ag_57 (by first | assumption | exact hS2.cell 2 rfl rfl) rfl ?_
 refine wl_move rfl rfl ?_
 refine wl_delete (k := f) 4 hS2 keysInt Tryz.underlying57 rfl rfl rfl rfl ?_
 intro w3 hS3; dsimp only [List.set] at hS3; rw [gI_del] at hS3
 clear hS2
 refine wl_nil (qs_seq (wc_region (wl_move rfl rfl (wl_move rfl rfl (wl_nilCheck rfl rfl ?_)))))
 refine wl_fieldAddr rfl fo_65_9 rfl ?_
 refine wl_load rfl ag_28 (by first | assumption | exact hS3.cell 2 rfl rfl) rfl ?_
 refine wl_move rfl rfl ?_
 refine wl_rowBuild inC [f] hS3 rfl Tryz.underlying28 ifz_3 rfl rfl rfl rfl (by first | rfl | simp [RowC.cells, fillL, splice]) rfl ?_
 intro b4 w4 hS4
 clear hS3
 refine wl_rowApp inC 8 hS4 rfl rfl rfl (hS4.rd 0 rfl (by simp)) Tryz.underlying28 Tryz.underlying28 (by intro k hk; cases hk) ifo_3 rfl (by simp only [List.length_cons, List.length_nil]; omega) rfl (by simp only [List.length_cons, List.length_nil]; omega) ?_
 intro v5 w5 hS5; dsimp only [List.set] at hS5
 clear hS4
 have h1v5 : v5.oneCell' = true := hS5.own_one 8 rfl
 refine wl_nilCheck rfl rfl ?_
 refine wl_fieldAddr rfl fo_65_9 rfl ?_
 first | (refine wl_store hS5 rfl rfl sz_28 (by first | rfl | assumption | exact hS5.own_one 0 rfl | exact hS5.own_one 6 rfl | exact hS5.own_one 8 rfl) (i := 3) rfl (by first | decide | exact Nat.le_of_ble_eq_true rfl | (simp; done) | omega) ?_)
 intro w6 hS7; dsimp only [List.set] at hS7
 clear hS5
 refine wl_nil ?_
 refine fin0 (.inl rfl) rfl ?_
 exact ⟨_, rfl, rfl, shT_shut (S := offFrame S f) (hS7.pick [3, 4, 5, 6, 2, 7, 1, 8, 9] rfl)⟩
theorem sumF_step {A : Int → Option ShE} {l : List Int} {i : Nat} {j : Int} {x : ShE} (hj : l[i]? = some j) (hx : A j = some x) (hp : x.place = 2) : sumF A (l.take (i + 1)) = sumF A (l.take i) + (fmE x).length := by
  rw [List.take_add_one, hj]
  unfold sumF
  simp only [Option.toList_some, List.map_append, List.map_cons, List.map_nil, List.sum_append, List.sum_cons, List.sum_nil]
  unfold fmL fmE
  rw [hx, if_pos hp]; rfl
theorem sumF_drop {A : Int → Option ShE} {l : List Int} {i : Nat} {j : Int} {x : ShE} (hj : l[i]? = some j) (hx : A j = some x) (hp : x.place = 2) : sumF A (l.drop i) = (fmE x).length + sumF A (l.drop (i + 1)) := by
  obtain ⟨hi, he⟩ := List.getElem?_eq_some_iff.1 hj
  rw [List.drop_eq_getElem_cons hi, he]
  unfold sumF
  rw [List.map_cons, List.sum_cons]
  unfold fmL fmE
  rw [hx, if_pos hp]
theorem fm_le (p : Bs) : (fm p).length ≤ 47 := by
  unfold fm
  cases h : packM p with
  | none => simp
  | some f => exact (packM_le h).1
theorem sumF_le (A : Int → Option ShE) : ∀ l : List Int, sumF A l ≤ 47 * l.length
  | [] => by simp [sumF]
  | j :: l => by
    have h1 := sumF_le A l
    unfold sumF at h1 ⊢
    rw [List.map_cons, List.sum_cons, List.length_cons]
    have : fmL A j ≤ 47 := by
      unfold fmL
      cases A j with
      | none => simp
      | some x => exact fm_le x.pg
    omega
set_option maxRecDepth 100000 in
theorem shpacked_sp {w : World} {p : Nat} {S : SS} {F : Th} (hS : Sat w [shT p S, F]) {E : Int → Prop} {N : Nat} (hI : ShI E N S) (hN : N ≤ 900000) :
    Calls Tryz.prog 104 #[ptrV p 0] w (Ret fun v w' => v = intV ((sumF S.all S.cache : Nat) : Int) ∧ Sat w' [shT p S, F]) := by
 have hcl := hI.cln
 obtain ⟨ba, bi, fp, sp, kp, ac, cc, at2, ct, hS⟩ := shT_open hS
 refine calls_enter Tryz.func104 rfl Tryz.ntmps104 rfl ?_
 refine wc_seq (wc_region (wl_assign rfl rfl (wl_nil (qs_seq (wc_seq (wc_region (wl_assign rfl rfl (wl_nil (qs_seq (wc_seq (wc_seq (wc_region (wl_move rfl rfl (wl_nilCheck rfl rfl ?_))))))))))))))
 refine wl_fieldAddr rfl fo_65_2 rfl ?_
 refine wl_load rfl ag_28 (by first | assumption | exact hS.cell 0 rfl rfl) rfl ?_
 first | refine wl_lenL Tryz.underlying28 rfl rfl ?_ | refine wl_lenO 3 hS Tryz.underlying28 rfl rfl rfl ?_ | refine wl_lenO 7 hS Tryz.underlying28 rfl rfl rfl ?_
 refine wl_move rfl rfl (wl_nil (qs_seq (wc_block ?_)))
 refine wc_loop (fun K0 E0 W0 => ∃ (i : Nat), K0 = S.cache.length - i ∧ E0 = [(0, ptrV p 0), (3, intV ((sumF S.all (S.cache.take i) : Nat) : Int)), (9, .slice ac S.cache.length cc), (10, intV (S.cache.length : Int)), (11, intV (i : Int))] ∧ Sat W0 [blkT p [.map (some ba), .map (some bi), .slice ac S.cache.length cc, ptrV fp 0, ptrV sp 0, ptrV kp 0, intV S.slots, intV S.budget, intV S.next, .slice at2 S.taken.length ct], mapT intK ba (aG S.all), mapT intK bi (gI S.inn), rowT inC (.slice ac S.cache.length cc) S.cache, frT fp S.fr, swT sp S.sl, ckT kp S.ck, rowT inC (.slice at2 S.taken.length ct) S.taken, F] ∧ (i ≤ S.cache.length)) (L0 := [(0, _), (3, _), (9, _), (10, _), (11, _)]) (S.cache.length - 0) (.cons rfl (.cons rfl (.cons rfl (.cons rfl (.cons rfl .nil))))) ⟨0, rfl, rfl, hS, by omega⟩ ?_
 rintro _ _ w1 ⟨i, rfl, rfl, hS1, hi⟩
 refine wc_seq (wc_region ?_)
 refine wl_lss rfl rfl rfl ?_
 refine wl_nil (qs_seq (wc_seq ?_))
 refine wc_condD rfl (fun h2 => ?_) (fun h2 => ?_)
 ·obtain ⟨j, hj⟩ : ∃ j, S.cache[i]? = some j := ⟨_, List.getElem?_eq_getElem (by omega)⟩
  obtain ⟨_, x, hx, hp⟩ := hI.cch (List.mem_of_getElem? hj)
  have hsl := sumF_le S.all (S.cache.take i)
  have htl := List.length_take_le i S.cache
  have hfl : (fmE x).length ≤ 47 := by unfold fmE; rw [if_pos hp]; exact fm_le x.pg
  refine wc_skip (qs_seq (wc_seq (wc_block (wc_seq (wc_region ?_)))))
  refine wl_rowIdx inC 3 i hS1 rfl rfl rfl (by first | rfl | omega) hj es_28 rfl ?_
  intro bx3 capx3 hvx3
  refine wl_rowLoad 3 i 0 hS1 rfl hvx3 rfl rfl hj ag_3 rfl rfl ?_
  refine wl_assign rfl rfl (wl_nil (qs_seq (wc_region (wl_move rfl rfl (wl_move rfl rfl (wl_nilCheck rfl rfl ?_))))))
  refine wl_fieldAddr rfl fo_65_0 rfl ?_
  refine wl_load rfl ag_56 (by first | assumption | exact hS1.cell 0 rfl rfl) rfl ?_
  refine wl_move rfl rfl ?_
  refine wl_lookup (k := j) 1 hS1 keysInt Tryz.underlying56 rfl rfl rfl zr_76 (u := (.agg #[intV x.refs, intV x.place, intV x.at_, strV (fmE x)])) (aG_some hx) rfl ?_
  refine wl_field fv_76_3 rfl rfl rfl ?_
  refine wl_lenS Tryz.underlying9 rfl rfl ?_
  refine wl_add rfl rfl (by omega) (by omega) rfl ?_
  refine wl_assign rfl rfl (wl_nil (qs_block_normal (qs_seq ?_)))
  refine wc_sub (L' := [(3, _), (0, _), (9, _), (10, _), (11, _)]) (.cons rfl (.cons rfl (.cons rfl (.cons rfl (.cons rfl .nil))))) ?_
  refine wc_region ?_
  refine wl_add rfl rfl (by omega) (by omega) rfl ?_
  refine wl_move rfl rfl (wl_nil ?_)
  exact qs_round (L1 := [(0, _), (3, intV ((sumF S.all (S.cache.take (i + 1)) : Nat) : Int)), (9, _), (10, _), (11, intV ((i + 1 : Nat) : Int))]) (by rw [sumF_step hj hx hp]; exact (.cons rfl (.cons rfl (.cons rfl (.cons rfl (.cons rfl .nil)))))) (k1 := S.cache.length - (i + 1)) (by omega) ⟨i + 1, rfl, rfl, hS1.pick [0, 1, 2, 3, 4, 5, 6, 7, 8] rfl, by omega⟩
 refine wc_exit (qs_then_exit (qs_then_exit (qs_block_exit (qs_seq (wc_seq (wc_region (wl_move rfl rfl (wl_assign rfl rfl (wl_nil (qs_seq (wc_ret ?_)))))))))))
 refine fin1 (.inr rfl) rfl rfl ?_
 exact ⟨_, rfl, by rw [List.take_of_length_le (by omega)], shT_shut (hS1.pick [0, 1, 2, 3, 4, 5, 6, 7, 8] rfl)⟩
end Go.Proofs.YtnicmcdeoimhlaaGreat
/- sheets: pack -/
namespace Go.Proofs.YtnicmcdeoimhlaaGreat
open Go.RowKit M
set_option linter.unusedVariables false
/-- sheets were moved from the cache to slots; E: those that lie nowhere -/
structure PkS (E : Int → Prop) (S S1 : SS) : Prop where
  go : ShG S S1
  inn : S1.inn = S.inn
  fr : S1.fr = S.fr
  ck : S1.ck = S.ck
  tak : S1.taken = S.taken
  one : ∀ j x, S.all j = some x → x.place = 1 ∨ E j → S1.all j = some x
theorem PkS.refl (E : Int → Prop) (S : SS) : PkS E S S := ⟨ShG.refl S, rfl, rfl, rfl, rfl, fun _ _ h _ => h⟩
theorem pack_step {E : Int → Prop} {T : Nat} {S0 S : SS} {j : Int} {c : List Int} {x : ShE} {k : Nat} (h : ShI E T S) (hp : PkS E S0 S) (hc : S.cache = j :: c) (hx : S.all j = some x) (hk : S.sl[k]? = some []) :
    ShI E T { S with all := up S.all j (some ⟨x.refs, 3, (k : Nat), x.pg⟩), sl := S.sl.set k x.pg, cache := c } ∧ PkS E S0 { S with all := up S.all j (some ⟨x.refs, 3, (k : Nat), x.pg⟩), sl := S.sl.set k x.pg, cache := c } := by
  obtain ⟨hje, x', hx', hpl⟩ := h.cch (j := j) (by rw [hc]; simp)
  obtain rfl : x = x' := by rw [hx] at hx'; cases hx'; rfl
  have hjc : j ∉ c := by have := h.nod; rw [hc] at this; exact (List.nodup_cons.1 this).1
  have h1 := h.offCache hx hpl (c := c) (by rw [hc]; exact List.sublist_cons_self j c) (fun i => by
    rw [hc]
    constructor
    · intro hi; exact ⟨List.mem_cons_of_mem _ hi, fun q => hjc (q ▸ hi)⟩
    · rintro ⟨hi, hne⟩; exact (List.mem_cons.1 hi).resolve_left hne)
  have h2 := ShI.onSlot (S := { S with cache := c }) (x := x) h1 (.inr rfl) hx hk
  refine ⟨h2.congr fun i _ => ⟨fun ⟨a, b⟩ => a.resolve_right b, fun a => ⟨.inl a, fun q => hje (q ▸ a)⟩⟩, ?_⟩
  refine ⟨hp.go.trans ⟨fun i => ?_, ⟨[], by simp, fun i y hy hp1 => .inr ⟨y, ?_, hp1, rfl⟩⟩, rfl, rfl, rfl, rfl⟩, hp.inn, hp.fr, hp.ck, hp.tak, fun i y hy hpy => ?_⟩
  · show ((up S.all j _) i).map _ = _
    by_cases q : i = j
    · subst q; rw [up_self, hx]; rfl
    · rw [up_ne q]
  · show (up S.all j _) i = _
    rw [up_ne (fun q => by subst q; rw [hx] at hy; cases hy; omega)]; exact hy
  · show (up S.all j _) i = _
    have h3 := hp.one i y hy hpy
    rw [up_ne (fun q => by
      subst q
      rcases hpy with hpy | hpy
      · rw [hx] at h3; cases h3; omega
      · exact hje hpy)]; exact h3
/-- what evicting leaves -/
structure EvS (E : Int → Prop) (T : Nat) (f : Int) (S S' : SS) : Prop where
  inv : ShI E (T + 1) S'
  go : ShG S S'
  fr : S'.fr = S.fr.set f.toNat none
  lim : ∀ j x, S.all j = some x → E j → S'.all j = some x
theorem evict_pack {E : Int → Prop} {T : Nat} {S S1 : SS} {id f : Int} {x : ShE} (h0 : ShI E T S) (h : ShI E T S1) (hp : PkS E S S1) (hE : ¬ E id) (hx : S.all id = some x) (hpl : x.place = 1) (hat : x.at_ = f) (hpk : packM x.pg ≠ none) (hs : (sumF S1.all S1.cache + (fm x.pg).length : Int) ≤ S1.budget) :
    EvS E T f S (offFrame { S1 with all := up S1.all id (some ⟨x.refs, 2, 0, x.pg⟩), cache := S1.cache ++ [id] } f) := by
  have hx1 := hp.one id x hx (.inl hpl)
  have h1 := h.offFrame hE hx1 hpl hat
  have h2 := ShI.onCache (S := offFrame S1 f) (x := x) h1 (.inr rfl) hx1 hpk hs (by have := h.cln; show S1.cache.length + 1 ≤ _; omega) 0
  refine ⟨h2.congr fun i _ => ⟨fun ⟨a, b⟩ => a.resolve_right b, fun a => ⟨.inl a, fun q => hE (q ▸ a)⟩⟩, hp.go.trans ⟨fun i => ?_, ⟨[f], rfl, fun i y hy hp1 => ?_⟩, rfl, rfl, by show (S1.fr.set _ _).length = _; rw [List.length_set], rfl⟩, by show S1.fr.set _ _ = _; rw [hp.fr], fun i y hy hi => ?_⟩
  · show (up S1.all id _ i).map _ = _
    by_cases q : i = id
    · subst q; rw [up_self, hx1]; rfl
    · rw [up_ne q]
  · by_cases q : i = id
    · subst q; rw [hx1] at hy; cases hy; exact .inl (by rw [hat]; simp)
    · exact .inr ⟨y, by show up S1.all id _ i = _; rw [up_ne q]; exact hy, hp1, rfl⟩
  · show up S1.all id _ i = _
    rw [up_ne (fun q => hE (by rw [← q]; exact hi))]; exact hp.one i y hy (.inr hi)
theorem evict_slot {E : Int → Prop} {T : Nat} {S : SS} {id f : Int} {x : ShE} {k : Nat} (h : ShI E T S) (hE : ¬ E id) (hx : S.all id = some x) (hpl : x.place = 1) (hat : x.at_ = f) (hk : S.sl[k]? = some []) :
    EvS E T f S (offFrame { S with all := up S.all id (some ⟨x.refs, 3, (k : Nat), x.pg⟩), sl := S.sl.set k x.pg } f) := by
  have h1 := h.offFrame hE hx hpl hat
  have h2 := ShI.onSlot (S := offFrame S f) (x := x) h1 (.inr rfl) hx hk
  refine ⟨h2.congr fun i _ => ⟨fun ⟨a, b⟩ => a.resolve_right b, fun a => ⟨.inl a, fun q => hE (q ▸ a)⟩⟩, ⟨fun i => ?_, ⟨[f], rfl, fun i y hy hp1 => ?_⟩, rfl, rfl, by show (S.fr.set _ _).length = _; rw [List.length_set], rfl⟩, rfl, fun i y hy hi => ?_⟩
  · show (up S.all id _ i).map _ = _
    by_cases q : i = id
    · subst q; rw [up_self, hx]; rfl
    · rw [up_ne q]
  · by_cases q : i = id
    · subst q; rw [hx] at hy; cases hy; exact .inl (by rw [hat]; simp)
    · exact .inr ⟨y, by show up S.all id _ i = _; rw [up_ne q]; exact hy, hp1, rfl⟩
  · show up S.all id _ i = _
    rw [up_ne (fun q => hE (by rw [← q]; exact hi))]; exact hy
/-- the sheet of a frame -/
theorem frame_has {E : Int → Prop} {T : Nat} {S : SS} {f : Int} {b : Bs} (h : ShI E T S) (hf : frAt S.fr f = some b) : ∃ id x, S.inn f = some id ∧ ¬ E id ∧ S.all id = some x ∧ x.place = 1 ∧ x.at_ = f ∧ x.pg = b := by
  cases hq : S.inn f with
  | none => exact absurd hq (h.fru hf)
  | some id =>
    obtain ⟨h1, x, h2, h3, h4⟩ := (h.frm f id).1 hq
    have := h.frc h1 h2 h3
    rw [h4, hf] at this
    exact ⟨id, x, rfl, h1, h2, h3, h4, by cases this; rfl⟩
theorem gI_some {g : Int → Option Int} {k j : Int} {z : Value} (h : g k = some j) : (gI g k).getD z = intV j := by unfold gI; rw [h]; rfl
set_option maxRecDepth 100000 in
set_option maxHeartbeats 1600000 in
theorem shpack_sp {w : World} {p : Nat} {S : SS} {F : Th} (hS : Sat w [shT p S, F]) {E : Int → Prop} {N : Nat} (hI : ShI E N S) (hN : N ≤ 900000) {id : Int} {x : ShE} (hx : S.all id = some x) (hpl : x.place = 1) :
    Calls Tryz.prog 94 #[ptrV p 0, intV id, strV x.pg] w (Ret fun v w' => (v = .bool false ∧ Sat w' [shT p S, F]) ∨ (∃ f S1, v = .bool true ∧ packM x.pg = some f ∧ ShI E N S1 ∧ PkS E S S1 ∧ (sumF S1.all S1.cache + f.length : Int) ≤ S1.budget ∧ Sat w' [shT p { S1 with all := up S1.all id (some ⟨x.refs, 2, 0, x.pg⟩), cache := S1.cache ++ [id] }, F])) := by
 have hx64 : x.pg.length = 64 := (hI.ent hx).2.2.2.2.1
 have hcl := hI.cln
 have hul := usedN_le S.sl
 have hslo := hI.slo
 have hsl2 := hI.sl2
 obtain ⟨ba, bi, fp, sp, kp, ac, cc, at2, ct, hS⟩ := shT_open hS
 cases hpm : packM x.pg with
 | none =>
  refine calls_enter Tryz.func94 rfl Tryz.ntmps94 rfl ?_
  refine wc_seq (wc_region (wl_assign rfl rfl (wl_nil (qs_seq (wc_seq (wc_region (wl_move rfl rfl ?_)))))))
  have hC1 := hS.split [] [false, false, false, false, false, false, false, false, false] rfl; dsimp only [selF, pickA, nthA, List.cons_append, List.nil_append] at hC1
  refine wl_call cal_20 rfl (pack_sp hC1 x.pg hx64) rfl ?_
  rintro e w1 ⟨_, rfl, rfl, hS1⟩; refine ⟨_, rfl, ?_⟩
  replace hS1 := hS1.join rfl; dsimp only [List.dropLast, List.cons_append, List.nil_append] at hS1; clear hC1
  rw [hpm]
  dsimp only [packV, Option.getD_some, Option.isSome_some, Option.getD_none, Option.isSome_none]
  refine wl_move rfl rfl (wl_extract rfl rfl rfl (wl_extract rfl rfl rfl (wl_assign rfl rfl (wl_assign rfl rfl (wl_nil (qs_seq ?_))))))
  refine wc_sub (L' := [(8, _), (7, _), (6, _), (0, _), (1, _)]) (.cons rfl (.cons rfl (.cons rfl (.cons rfl (.cons rfl .nil))))) ?_
  refine wc_seq (wc_seq (wc_region (wl_move rfl rfl ?_)))
  refine wl_not rfl rfl ?_
  refine wl_move rfl rfl ?_
  refine wl_split 25 rfl (fun h2 => ?_) (fun h2 => ?_)
  ·refine wl_unwanted rfl rfl h2 rfl ?_
   refine wl_unwanted rfl rfl h2 rfl ?_
   refine wl_unwanted rfl rfl h2 rfl ?_
   refine wl_unwanted rfl rfl h2 rfl ?_
   refine wl_unwanted rfl rfl h2 rfl ?_
   refine wl_unwanted rfl rfl h2 rfl ?_
   refine wl_unwanted rfl rfl h2 rfl ?_
   refine wl_pickT rfl h2 rfl rfl ?_
   refine wl_nil (qs_seq ?_)
   refine wc_sub (L' := [(33, _), (7, _), (6, _), (0, _), (1, _)]) (.cons rfl (.cons rfl (.cons rfl (.cons rfl (.cons rfl .nil))))) ?_
   refine wc_condT rfl ?_
   refine wc_seq (wc_region (wl_assign rfl rfl (wl_nil (qs_seq (wc_ret (qs_then_ret ?_))))))
   refine fin1 (.inr rfl) rfl rfl ?_
   exact ⟨_, rfl, .inl ⟨rfl, shT_shut (hS1.pick [0, 1, 2, 3, 4, 5, 6, 7, 8] rfl)⟩⟩
  exact absurd h2 (by simp)
 | some f =>
  have hfl := (packM_le hpm).1
  have hss := sumF_le S.all S.cache
  refine calls_enter Tryz.func94 rfl Tryz.ntmps94 rfl ?_
  refine wc_seq (wc_region (wl_assign rfl rfl (wl_nil (qs_seq (wc_seq (wc_region (wl_move rfl rfl ?_)))))))
  have hC1 := hS.split [] [false, false, false, false, false, false, false, false, false] rfl; dsimp only [selF, pickA, nthA, List.cons_append, List.nil_append] at hC1
  refine wl_call cal_20 rfl (pack_sp hC1 x.pg hx64) rfl ?_
  rintro e w1 ⟨_, rfl, rfl, hS1⟩; refine ⟨_, rfl, ?_⟩
  replace hS1 := hS1.join rfl; dsimp only [List.dropLast, List.cons_append, List.nil_append] at hS1; clear hC1
  rw [hpm]
  dsimp only [packV, Option.getD_some, Option.isSome_some, Option.getD_none, Option.isSome_none]
  refine wl_move rfl rfl (wl_extract rfl rfl rfl (wl_extract rfl rfl rfl (wl_assign rfl rfl (wl_assign rfl rfl (wl_nil (qs_seq ?_))))))
  refine wc_sub (L' := [(8, _), (7, _), (6, _), (0, _), (1, _)]) (.cons rfl (.cons rfl (.cons rfl (.cons rfl (.cons rfl .nil))))) ?_
  refine wc_seq (wc_seq (wc_region (wl_move rfl rfl ?_)))
  refine wl_not rfl rfl ?_
  refine wl_move rfl rfl ?_
  refine wl_split 25 rfl (fun h2 => ?_) (fun h2 => ?_)
  ·exact absurd h2 (by simp)
  refine wl_guard rfl rfl h2 ?_
  refine wl_move rfl rfl ?_
  refine wl_guard rfl rfl h2 ?_
  refine wl_lenS Tryz.underlying9 rfl rfl ?_
  refine wl_guard rfl rfl h2 ?_
  refine wl_move rfl rfl ?_
  refine wl_guard rfl rfl h2 ?_
  refine wl_nilCheck rfl rfl ?_
  refine wl_guard rfl rfl h2 ?_
  refine wl_fieldAddr rfl fo_65_7 rfl ?_
  refine wl_guard rfl rfl h2 ?_
  refine wl_load rfl ag_3 (by first | assumption | exact hS1.cell 0 rfl rfl) rfl ?_
  refine wl_guard rfl rfl h2 ?_
  refine wl_gtr rfl rfl rfl ?_
  refine wl_pickF rfl h2 rfl rfl ?_
  refine wl_nil (qs_seq ?_)
  refine wc_sub (L' := [(33, _), (7, _), (6, _), (0, _), (1, _)]) (.cons rfl (.cons rfl (.cons rfl (.cons rfl (.cons rfl .nil))))) ?_
  refine wc_condD rfl (fun h3 => ?_) (fun h3 => ?_)
  ·refine wc_seq (wc_region (wl_assign rfl rfl (wl_nil (qs_seq (wc_ret (qs_then_ret ?_))))))
   refine fin1 (.inr rfl) rfl rfl ?_
   exact ⟨_, rfl, .inl ⟨rfl, shT_shut (hS1.pick [0, 1, 2, 3, 4, 5, 6, 7, 8] rfl)⟩⟩
  refine wc_skip (qs_seq (wc_seq (wc_region (wl_move rfl rfl ?_))))
  have hSc := shT_shut (hS1.pick [0, 1, 2, 3, 4, 5, 6, 7, 8] rfl)
  have hC4 := hSc.split [0] [true, false] rfl; dsimp only [selF, pickA, nthA, List.cons_append, List.nil_append] at hC4
  refine wl_call cal_104 rfl (shpacked_sp hC4 hI hN) rfl ?_
  rintro e w4 ⟨_, rfl, rfl, hS4⟩; refine ⟨_, rfl, ?_⟩
  replace hS4 := hS4.join rfl; dsimp only [List.dropLast, List.cons_append, List.nil_append] at hS4; clear hC4
  clear hSc
  obtain ⟨ba, bi, fp, sp, kp, ac, cc, at2, ct, hSo5⟩ := shT_open (hS4.pick [0, 1] rfl)
  obtain ⟨_, _, hqc, hccl, _⟩ := hSo5.own_shape 3 rfl; cases hqc
  refine wl_move rfl rfl ?_
  refine wl_lenS Tryz.underlying9 rfl rfl ?_
  refine wl_add rfl rfl (by omega) (by omega) rfl ?_
  refine wl_assign rfl rfl (wl_assign rfl rfl (wl_nil (qs_seq ?_)))
  refine wc_sub (L' := [(10, _), (9, _), (7, _), (6, _), (0, _), (1, _)]) (.cons rfl (.cons rfl (.cons rfl (.cons rfl (.cons rfl (.cons rfl .nil)))))) ?_
  refine wc_seq (wc_block ?_)
  refine wc_loop (fun K0 E0 W0 => ∃ (k : Nat), K0 = S.cache.length - k ∧ E0 = [(0, ptrV p 0), (1, intV id), (7, strV f), (9, intV (k : Int)), (10, intV ((sumF S.all (S.cache.drop k) + f.length : Nat) : Int))] ∧ Sat W0 [blkT p [.map (some ba), .map (some bi), .slice ac S.cache.length cc, ptrV fp 0, ptrV sp 0, ptrV kp 0, intV S.slots, intV S.budget, intV S.next, .slice at2 S.taken.length ct], mapT intK ba (aG S.all), mapT intK bi (gI S.inn), rowT inC (.slice ac S.cache.length cc) S.cache, frT fp S.fr, swT sp S.sl, ckT kp S.ck, rowT inC (.slice at2 S.taken.length ct) S.taken, F] ∧ (k ≤ S.cache.length)) (L0 := [(0, _), (1, _), (7, _), (9, _), (10, _)]) (S.cache.length - 0) (.cons rfl (.cons rfl (.cons rfl (.cons rfl (.cons rfl .nil))))) ⟨0, rfl, rfl, hSo5, by omega⟩ ?_
  rintro _ _ w6 ⟨k, rfl, rfl, hS6, hk⟩
  refine wc_seq (wc_seq (wc_region (wl_move rfl rfl (wl_move rfl rfl (wl_nilCheck rfl rfl ?_)))))
  refine wl_fieldAddr rfl fo_65_7 rfl ?_
  refine wl_load rfl ag_3 (by first | assumption | exact hS6.cell 0 rfl rfl) rfl ?_
  refine wl_gtr rfl rfl rfl ?_
  refine wl_nil (qs_seq ?_)
  refine wc_sub (L' := [(44, _), (0, _), (1, _), (7, _), (9, _), (10, _)]) (.cons rfl (.cons rfl (.cons rfl (.cons rfl (.cons rfl (.cons rfl .nil)))))) ?_
  refine wc_condD rfl (fun h7 => ?_) (fun h7 => ?_)
  ·have hkl : k < S.cache.length := by rcases Nat.lt_or_ge k S.cache.length with q | q; exact q; (exfalso; have hh := h7; rw [List.drop_of_length_le q] at hh; simp only [sumF, List.map_nil, List.sum_nil] at hh; omega)
   obtain ⟨j, hj⟩ : ∃ j, S.cache[k]? = some j := ⟨_, List.getElem?_eq_getElem hkl⟩
   obtain ⟨_, y, hy, hyp⟩ := hI.cch (List.mem_of_getElem? hj)
   have hsd := sumF_drop hj hy hyp
   have hsl := sumF_le S.all (S.cache.drop k)
   have hdl : (S.cache.drop k).length ≤ S.cache.length := by rw [List.length_drop]; omega
   refine wc_skip (qs_seq (wc_block (wc_seq ?_)))
   obtain ⟨ob, oc9, hq9, _⟩ := hS6.own_at 3 rfl (by omega)
   cases hq9
   have hS8 := hS6.drew
   refine wc_draw [0, 1, 2, 3, 4, 5, 6, 7, 8, 9, 10, 11, 12, 13, 14, 15, 16] [] mix (by kernel_rfl) ?_
   refine vc_p rfl rfl rfl (fun _ => (ev_move rfl)) ?_
   refine vc_p rfl rfl rfl (fun _ => (ev_move rfl)) ?_
   refine vc_p rfl rfl rfl (fun _ => (ev_nilCheck rfl)) ?_
   refine vc_p rfl rfl rfl (fun _ => (ev_fieldAddr rfl fo_65_0)) ?_
   refine vc_q rfl rfl rfl (ev_load rfl ag_56 (by first | assumption | exact hS8.cell 0 rfl rfl)) ?_
   refine vc_p rfl rfl rfl (fun _ => (ev_move rfl)) ?_
   refine vc_p rfl rfl rfl (fun _ => (ev_nilCheck rfl)) ?_
   refine vc_p rfl rfl rfl (fun _ => (ev_fieldAddr rfl fo_65_2)) ?_
   refine vc_q rfl rfl rfl (ev_load rfl ag_28 (by first | assumption | exact hS8.cell 0 rfl rfl)) ?_
   refine vc_p rfl rfl rfl (fun _ => (ev_move rfl)) ?_
   refine vc_p rfl rfl rfl (fun _ => (ev_indexAddr k rfl rfl (by first | rfl | omega) (by exact hkl) es_28)) ?_
   refine vc_q rfl rfl rfl (ev_rowLoad0 inC 3 k 0 hS8 rfl hj ag_3 rfl rfl) ?_
   refine vc_q rfl rfl rfl (ev_lookup (k := j) 1 hS8 keysInt Tryz.underlying56 rfl rfl rfl zr_76 (u := (.agg #[intV y.refs, intV y.place, intV y.at_, strV (fmE y)])) (aG_some hy)) ?_
   refine vc_p rfl rfl rfl (fun _ => (ev_field fv_76_3 rfl rfl)) ?_
   refine vc_p rfl rfl rfl (fun _ => (ev_lenS Tryz.underlying9 rfl)) ?_
   refine vc_p rfl rfl rfl (fun _ => (ev_sub' rfl rfl (by omega) (by omega))) ?_
   refine vc_p rfl rfl rfl (fun _ => (ev_assign rfl)) ?_
   refine VC.nil (qs_seq ?_)
   refine wc_sub (L' := [(10, _), (0, _), (1, _), (7, _), (9, _)]) (.cons rfl (.cons rfl (.cons rfl (.cons rfl (.cons rfl .nil))))) ?_
   refine wc_region (wl_move rfl rfl ?_)
   refine wl_add rfl rfl (by omega) (by omega) rfl ?_
   refine wl_assign rfl rfl (wl_nil (qs_block_normal ?_))
   exact qs_round (L1 := [(0, _), (1, _), (7, _), (9, intV ((k + 1 : Nat) : Int)), (10, intV ((sumF S.all (S.cache.drop (k + 1)) + f.length : Nat) : Int))]) (by rw [show sumF S.all (S.cache.drop (k + 1)) + f.length = sumF S.all (S.cache.drop k) + f.length - (fmE y).length by omega, Int.ofNat_sub (by omega)]; exact (.cons rfl (.cons rfl (.cons rfl (.cons rfl (.cons rfl .nil)))))) (k1 := S.cache.length - (k + 1)) (by omega) ⟨k + 1, rfl, rfl, hS8.pick [0, 1, 2, 3, 4, 5, 6, 7, 8] rfl, by omega⟩
  refine wc_exit (qs_then_exit (qs_then_exit (qs_block_exit (qs_seq (wc_seq (wc_seq ?_))))))
  have hS9 := hS6.drew
  refine wc_draw [0, 1, 2, 3, 4, 5, 6, 7, 10, 8, 9, 11] [8] mix (by kernel_rfl) ?_
  refine vc_p rfl rfl rfl (fun _ => (ev_move rfl)) ?_
  refine vc_p rfl rfl rfl (fun _ => (ev_nilCheck rfl)) ?_
  refine vc_p rfl rfl rfl (fun _ => (ev_fieldAddr rfl fo_65_6)) ?_
  refine vc_q rfl rfl rfl (ev_load rfl ag_3 (by first | assumption | exact hS9.cell 0 rfl rfl)) ?_
  refine vc_p rfl rfl rfl (fun _ => (ev_move rfl)) ?_
  refine vc_p rfl rfl rfl (fun _ => (ev_nilCheck rfl)) ?_
  refine vc_p rfl rfl rfl (fun _ => (ev_fieldAddr rfl fo_65_4)) ?_
  refine vc_q rfl rfl rfl (ev_load rfl ag_60 (by first | assumption | exact hS9.cell 0 rfl rfl)) ?_
  refine vc_p rfl rfl rfl (fun _ => (ev_move rfl)) ?_
  refine vc_s rfl rfl rfl rfl rfl rfl ?_
  have hC10 := hS9.split [5] [false, false, false, false, false, true, false, false, false] rfl; dsimp only [selF, pickA, nthA, List.cons_append, List.nil_append] at hC10
  refine wl_call cal_41 rfl (swused_sp hC10) rfl ?_
  rintro e w10 ⟨_, rfl, rfl, hS10⟩; refine ⟨_, rfl, ?_⟩
  replace hS10 := hS10.join rfl; dsimp only [List.dropLast, List.cons_append, List.nil_append] at hS10; clear hC10
  clear hS9
  refine vc_e (.skip (by kernel_rfl) (.cons (.inl ⟨rfl, (ev_load rfl ag_3 (by first | assumption | exact hS10.cell 1 rfl rfl))⟩) .nil)) ?_
  refine vc_p rfl rfl rfl (fun _ => (ev_sub' rfl rfl (by omega) (by omega))) ?_
  refine vc_p rfl rfl rfl (fun _ => (ev_lss rfl rfl)) ?_
  refine VC.nil (qs_seq ?_)
  refine wc_sub (L' := [(74, _), (0, _), (1, _), (7, _), (9, _)]) (.cons rfl (.cons rfl (.cons rfl (.cons rfl (.cons rfl .nil))))) ?_
  refine wc_condD rfl (fun h11 => ?_) (fun h11 => ?_)
  ·refine wc_seq (wc_region (wl_assign rfl rfl (wl_nil (qs_seq (wc_ret (qs_then_ret ?_))))))
   refine fin1 (.inr rfl) rfl rfl ?_
   exact ⟨_, rfl, .inl ⟨rfl, shT_shut (hS10.pick [1, 2, 3, 4, 5, 0, 6, 7, 8] rfl)⟩⟩
  refine wc_skip (qs_seq (wc_seq (wc_seq ?_)))
  have hS12 := hS10.pick [1, 2, 3, 4, 5, 0, 6, 7, 8] rfl
  refine wc_region (wl_move rfl rfl (wl_nilCheck rfl rfl ?_))
  refine wl_fieldAddr rfl fo_65_2 rfl ?_
  refine wl_load rfl ag_28 (by first | assumption | exact hS12.cell 0 rfl rfl) rfl ?_
  refine wl_move rfl rfl ?_
  refine wl_view 0 k Tryz.underlying28 sz_3 rfl (bndN _) (bndS k _ rfl rfl) (by omega) (by omega) rfl ?_
  refine wl_lenL (m := k) Tryz.underlying28 rfl rfl ?_
  refine wl_move rfl rfl (wl_nil (qs_seq ?_))
  refine wc_sub (L' := [(82, _), (81, _), (80, _), (0, _), (1, _), (7, _), (9, _)]) (.cons rfl (.cons rfl (.cons rfl (.cons rfl (.cons rfl (.cons rfl (.cons rfl .nil))))))) ?_
  refine wc_block ?_
  refine wc_loop (fun K0 E0 W0 => ∃ (S1 : SS) (i : Nat), K0 = k - i ∧ E0 = [(0, ptrV p 0), (1, intV id), (7, strV f), (9, intV (k : Int)), (80, viewV 1 (.slice ac S.cache.length cc) 0 k), (81, intV (k : Int)), (82, intV (i : Int))] ∧ Sat W0 [blkT p [.map (some ba), .map (some bi), .slice ac S.cache.length cc, ptrV fp 0, ptrV sp 0, ptrV kp 0, intV S.slots, intV S.budget, intV S.next, .slice at2 S.taken.length ct], mapT intK ba (aG S1.all), mapT intK bi (gI S.inn), rowT inC (.slice ac S.cache.length cc) S.cache, frT fp S.fr, swT sp S1.sl, ckT kp S.ck, rowT inC (.slice at2 S.taken.length ct) S.taken, F] ∧ (ShI E N S1) ∧ (PkS E S S1) ∧ (S1.cache = S.cache.drop i) ∧ (i ≤ k) ∧ (usedN S1.sl + (k - i) ≤ S1.sl.length)) (L0 := [(0, _), (1, _), (7, _), (9, _), (80, _), (81, _), (82, _)]) (k - 0) (.cons rfl (.cons rfl (.cons rfl (.cons rfl (.cons rfl (.cons rfl (.cons rfl .nil))))))) ⟨S, 0, rfl, (by unfold viewV; rfl), hS12, hI, PkS.refl E S, rfl, by omega, by omega⟩ ?_
  rintro _ _ w13 ⟨S1, i, rfl, rfl, hS13, hI1, hP1, hC0, hi, hU⟩
  refine wc_seq (wc_region ?_)
  refine wl_lss rfl rfl rfl ?_
  refine wl_nil (qs_seq (wc_seq ?_))
  refine wc_condD rfl (fun h14 => ?_) (fun h14 => ?_)
  ·obtain ⟨j, hj⟩ : ∃ j, S.cache[i]? = some j := ⟨_, List.getElem?_eq_getElem (by omega)⟩
   have hC1 : S1.cache = j :: S.cache.drop (i + 1) := by rw [hC0, List.drop_eq_getElem_cons (by omega)]; congr 1; exact (List.getElem?_eq_some_iff.1 hj).2
   have hC2 : S.cache.drop (i + 1) = S.cache.drop (i + 1) := rfl
   obtain ⟨hjE, y, hy, hyp⟩ := hI1.cch (j := j) (by rw [hC1]; simp)
   obtain ⟨_, hpky⟩ := hI1.pck hjE hy hyp
   obtain ⟨fy, hfy⟩ := Option.ne_none_iff_exists'.1 hpky
   have hfme : fmE y = fy := by unfold fmE fm; rw [if_pos hyp, hfy]; rfl
   have hy64 : y.pg.length = 64 := (hI1.ent hy).2.2.2.2.1
   have hype : y.pg ≠ [] := fun q => by rw [q] at hy64; simp at hy64
   have hvw : Ent (rowT inC (.slice ac S.cache.length cc) S.cache) (RdL inC (viewV 1 (.slice ac S.cache.length cc) 0 k) ((S.cache.take k).drop 0)) := ent_view (by omega) (by omega) (by omega) hccl
   refine wc_skip (qs_seq (wc_seq (wc_block (wc_seq (wc_region ?_)))))
   have hvr := Ent.sat hvw hS13 3 rfl
   obtain ⟨va, vc, hvv, _⟩ := hvr.shape
   rw [hvv] at hvr
   obtain ⟨vb, vo, rfl, hvc⟩ := hvr.get (i := i) (a := j) (by rw [List.drop_zero, List.getElem?_take, if_pos (by omega)]; exact hj)
   refine wl_indexAddr i (congrArg some hvv) rfl rfl (by rw [List.drop_zero, List.length_take]; omega) es_28 rfl ?_
   refine wl_load rfl ag_3 (hvc 0 _ rfl) rfl ?_
   refine wl_assign rfl rfl (wl_nil (qs_seq ?_))
   refine wc_sub (L' := [(12, _), (0, _), (1, _), (7, _), (9, _), (80, _), (81, _), (82, _)]) (.cons rfl (.cons rfl (.cons rfl (.cons rfl (.cons rfl (.cons rfl (.cons rfl (.cons rfl .nil)))))))) ?_
   refine wc_seq (wc_region (wl_move rfl rfl (wl_nilCheck rfl rfl ?_)))
   refine wl_fieldAddr rfl fo_65_0 rfl ?_
   refine wl_load rfl ag_56 (by first | assumption | exact hS13.cell 0 rfl rfl) rfl ?_
   refine wl_move rfl rfl ?_
   refine wl_lookup (k := j) 1 hS13 keysInt Tryz.underlying56 rfl rfl rfl zr_76 (u := (.agg #[intV y.refs, intV y.place, intV y.at_, strV (fmE y)])) (aG_some hy) rfl ?_
   refine wl_alloc hS13 zr_76 rfl rfl ?_
   intro b15 w15 hS15
   clear hS13
   first | (refine wl_storeA hS15 rfl rfl sz_76 rfl (by first | rfl | (simp [allOne, Value.oneCell']; done) | assumption | exact hone) (i := 0) rfl (by first | decide | exact Nat.le_of_ble_eq_true rfl | (simp; done) | omega) ?_) | (refine wl_storeA hS15 rfl rfl sz_76 rfl (by first | rfl | (simp [allOne, Value.oneCell']; done) | assumption | exact hone) (i := 1) rfl (by first | decide | exact Nat.le_of_ble_eq_true rfl | (simp; done) | omega) ?_)
   intro w16 hS17; dsimp only [List.set] at hS17
   clear hS15
   refine wl_nil (qs_seq ?_)
   refine wc_sub (L' := [(13, _), (12, _), (0, _), (1, _), (7, _), (9, _), (80, _), (81, _), (82, _)]) (.cons rfl (.cons rfl (.cons rfl (.cons rfl (.cons rfl (.cons rfl (.cons rfl (.cons rfl (.cons rfl .nil))))))))) ?_
   refine wc_seq (wc_region ?_)
   refine wl_fieldAddr rfl fo_76_3 rfl ?_
   refine wl_load rfl ag_9 (by first | assumption | exact hS17.cell 0 rfl rfl | exact hS17.cell 1 rfl rfl) rfl ?_
   have hC18 := hS17.split [] [false, false, false, false, false, false, false, false, false, false] rfl; dsimp only [selF, pickA, nthA, List.cons_append, List.nil_append] at hC18
   refine wl_call cal_51 rfl (unpack_sp hC18 hy64 (by rw [hfme]; exact hfy)) rfl ?_
   rintro e w18 ⟨_, rfl, rfl, hS18⟩; refine ⟨_, rfl, ?_⟩
   replace hS18 := hS18.join rfl; dsimp only [List.dropLast, List.cons_append, List.nil_append] at hS18; clear hC18
   clear hS17
   refine wl_move rfl rfl (wl_extract rfl rfl rfl (wl_extract rfl rfl rfl (wl_assign rfl rfl (wl_assign rfl rfl (wl_nil (qs_seq ?_))))))
   refine wc_sub (L' := [(14, _), (13, _), (12, _), (0, _), (1, _), (7, _), (9, _), (80, _), (81, _), (82, _)]) (.cons rfl (.cons rfl (.cons rfl (.cons rfl (.cons rfl (.cons rfl (.cons rfl (.cons rfl (.cons rfl (.cons rfl .nil)))))))))) ?_
   refine wc_seq (wc_region (wl_move rfl rfl (wl_nilCheck rfl rfl ?_)))
   refine wl_fieldAddr rfl fo_65_4 rfl ?_
   refine wl_load rfl ag_60 (by first | assumption | exact hS18.cell 0 rfl rfl | exact hS18.cell 1 rfl rfl) rfl ?_
   refine wl_move rfl rfl ?_
   have hC19 := hS18.split [6] [false, false, false, false, false, false, true, false, false, false] rfl; dsimp only [selF, pickA, nthA, List.cons_append, List.nil_append] at hC19
   refine wl_call cal_95 rfl (swput_sp hC19 y.pg hy64) rfl ?_
   rintro e w19 ⟨_, rfl, (⟨hfull, rfl, hS19⟩ | ⟨ks, hks, rfl, hS19⟩)⟩
   ·exact absurd hfull (by omega)
   refine ⟨_, rfl, ?_⟩
   replace hS19 := hS19.join rfl; dsimp only [List.dropLast, List.cons_append, List.nil_append] at hS19; clear hC19
   clear hS18
   refine wl_move rfl rfl (wl_extract rfl rfl rfl (wl_extract rfl rfl rfl (wl_assign rfl rfl (wl_assign rfl rfl (wl_nil (qs_seq ?_))))))
   refine wc_sub (L' := [(16, _), (13, _), (12, _), (0, _), (1, _), (7, _), (9, _), (80, _), (81, _), (82, _)]) (.cons rfl (.cons rfl (.cons rfl (.cons rfl (.cons rfl (.cons rfl (.cons rfl (.cons rfl (.cons rfl (.cons rfl .nil)))))))))) ?_
   have hS20 := hS19.drew
   refine wc_draw [0, 1, 2, 3, 4, 5, 6, 7, 8, 9] [9] mix (by kernel_rfl) ?_
   refine vc_p rfl rfl rfl (fun _ => (ev_move rfl)) ?_
   refine vc_p rfl rfl rfl (fun _ => (ev_nilCheck rfl)) ?_
   refine vc_p rfl rfl rfl (fun _ => (ev_fieldAddr rfl fo_65_0)) ?_
   refine vc_q rfl rfl rfl (ev_load rfl ag_56 (by first | assumption | exact hS20.cell 1 rfl rfl | exact hS20.cell 2 rfl rfl)) ?_
   refine vc_p rfl rfl rfl (fun _ => (ev_move rfl)) ?_
   refine vc_p rfl rfl rfl (fun _ => (ev_fieldAddr rfl fo_76_0)) ?_
   refine vc_q rfl rfl rfl (ev_load rfl ag_3 (by first | assumption | exact hS20.cell 1 rfl rfl | exact hS20.cell 2 rfl rfl)) ?_
   refine vc_p rfl rfl rfl (fun _ => (ev_move rfl)) ?_
   refine vc_p rfl rfl rfl (fun _ => (ev_buildS rfl pl_76_0_1_2 asz_76 zr_76 rfl)) ?_
   refine vc_s rfl rfl rfl rfl rfl rfl ?_
   refine wl_mapUpdate (k := j) (v := shV ⟨y.refs, 3, (ks : Nat), y.pg⟩) 3 hS20 keysInt Tryz.underlying56 rfl rfl rfl rfl ?_
   intro w21 hS21a; dsimp only [List.set] at hS21a; have hS21 := hS21a; rw [aG_up] at hS21
   clear hS20
   refine vc_e0 (.skip (by kernel_rfl) (.skip (by kernel_rfl) .nil)) ?_
   refine VC.nil (qs_block_normal (qs_seq ?_))
   refine wc_sub (L' := [(0, _), (1, _), (7, _), (9, _), (80, _), (81, _), (82, _)]) (.cons rfl (.cons rfl (.cons rfl (.cons rfl (.cons rfl (.cons rfl (.cons rfl .nil))))))) ?_
   refine wc_region ?_
   refine wl_add rfl rfl (by omega) (by omega) rfl ?_
   refine wl_move rfl rfl (wl_nil ?_)
   obtain ⟨hI2, hP2⟩ := pack_step hI1 hP1 hC1 hy hks
   exact qs_round (L1 := [(0, _), (1, _), (7, _), (9, _), (80, _), (81, _), (82, intV ((i + 1 : Nat) : Int))]) (.cons rfl (.cons rfl (.cons rfl (.cons rfl (.cons rfl (.cons rfl (.cons rfl .nil))))))) (k1 := k - (i + 1)) (by omega) ⟨{ S1 with all := up S1.all j (some ⟨y.refs, 3, (ks : Nat), y.pg⟩), sl := S1.sl.set ks y.pg, cache := S.cache.drop (i + 1) }, i + 1, rfl, rfl, hS21.pick [2, 3, 4, 5, 6, 0, 7, 8, 9] rfl, hI2, hP2, rfl, by omega, by dsimp only; rw [List.length_set, usedN_put hks hype]; omega⟩
  refine wc_exit (qs_then_exit (qs_then_exit (qs_block_exit (qs_seq (wc_seq ?_)))))
  have hx1 : S1.all id = some x := hP1.one id x hx (.inl hpl)
  refine wc_region (wl_move rfl rfl (wl_move rfl rfl (wl_nilCheck rfl rfl ?_)))
  refine wl_fieldAddr rfl fo_65_2 rfl ?_
  refine wl_load rfl ag_28 (by first | assumption | exact hS13.cell 0 rfl rfl) rfl ?_
  refine wl_move rfl rfl ?_
  refine wl_view k S.cache.length Tryz.underlying28 sz_3 rfl (bndS k _ rfl rfl) (bndN _) (by omega) (by omega) rfl ?_
  have hv2 : Ent (rowT inC (.slice ac S.cache.length cc) S.cache) (RdL inC (viewV 1 (.slice ac S.cache.length cc) k S.cache.length) (S.cache.drop k)) := fun hq => by have q := ent_view (C := inC) (A := k) (B := S.cache.length) (by omega) (by omega) (by omega) hccl hq; rwa [List.take_of_length_le (by omega)] at q
  have hC22 := hS13.split [] [false, false, false, false, false, false, false, false, false] rfl; dsimp only [selF, pickA, nthA, List.cons_append, List.nil_append] at hC22
  refine wl_call cal_55 rfl (cloneI_sp hC22 (Ent.starL hv2 3 rfl) (by rw [List.length_drop]; omega)) rfl ?_
  rintro e w22 ⟨_, rfl, hS22⟩; refine ⟨_, rfl, ?_⟩
  replace hS22 := hS22.join rfl; dsimp only [List.dropLast, List.cons_append, List.nil_append] at hS22; clear hC22
  clear hS13
  obtain ⟨na, nc, hnv, _⟩ := hS22.own_shape 0 rfl
  obtain rfl := hnv
  refine wl_move rfl rfl ?_
  refine wl_rowBuild inC [id] hS22 rfl Tryz.underlying28 ifz_3 rfl rfl rfl rfl (by first | rfl | simp [RowC.cells, fillL, splice]) rfl ?_
  intro b23 w23 hS23
  clear hS22
  refine wl_rowApp inC 1 hS23 rfl rfl rfl (hS23.rd 0 rfl (by simp)) Tryz.underlying28 Tryz.underlying28 (by intro k hk; cases hk) ifo_3 rfl (by simp only [List.length_cons, List.length_nil, List.length_drop]; omega) rfl (by simp only [List.length_cons, List.length_nil, List.length_drop]; omega) ?_
  intro v24 w24 hS24; dsimp only [List.set] at hS24
  clear hS23
  have h1v24 : v24.oneCell' = true := hS24.own_one 1 rfl
  refine wl_nilCheck rfl rfl ?_
  refine wl_fieldAddr rfl fo_65_2 rfl ?_
  first | (refine wl_store hS24 rfl rfl sz_28 (by first | rfl | assumption | exact hS24.own_one 0 rfl | exact hS24.own_one 1 rfl | exact hS24.own_one 5 rfl | exact hS24.own_one 9 rfl) (i := 2) rfl (by first | decide | exact Nat.le_of_ble_eq_true rfl | (simp; done) | omega) ?_)
  intro w25 hS26; dsimp only [List.set] at hS26
  clear hS24
  refine wl_nil (qs_seq ?_)
  refine wc_sub (L' := [(0, _), (1, _), (7, _)]) (.cons rfl (.cons rfl (.cons rfl .nil))) ?_
  refine wc_seq ?_
  have hS27 := hS26.drew
  refine wc_draw [0, 1, 2, 3, 4, 5, 6, 7, 8, 9, 10, 11, 12, 13, 14] [14] mix (by kernel_rfl) ?_
  refine vc_p rfl rfl rfl (fun _ => (ev_move rfl)) ?_
  refine vc_p rfl rfl rfl (fun _ => (ev_nilCheck rfl)) ?_
  refine vc_p rfl rfl rfl (fun _ => (ev_fieldAddr rfl fo_65_0)) ?_
  refine vc_q rfl rfl rfl (ev_load rfl ag_56 (by first | assumption | exact hS27.cell 2 rfl rfl)) ?_
  refine vc_p rfl rfl rfl (fun _ => (ev_move rfl)) ?_
  refine vc_p rfl rfl rfl (fun _ => (ev_move rfl)) ?_
  refine vc_p rfl rfl rfl (fun _ => (ev_nilCheck rfl)) ?_
  refine vc_p rfl rfl rfl (fun _ => (ev_fieldAddr rfl fo_65_0)) ?_
  refine vc_q rfl rfl rfl (ev_load rfl ag_56 (by first | assumption | exact hS27.cell 2 rfl rfl)) ?_
  refine vc_p rfl rfl rfl (fun _ => (ev_move rfl)) ?_
  refine vc_q rfl rfl rfl (ev_lookup (k := id) 3 hS27 keysInt Tryz.underlying56 rfl rfl rfl zr_76 (u := (.agg #[intV x.refs, intV x.place, intV x.at_, strV (fmE x)])) (aG_some hx1)) ?_
  refine vc_p rfl rfl rfl (fun _ => (ev_field fv_76_0 rfl rfl)) ?_
  refine vc_p rfl rfl rfl (fun _ => (ev_move rfl)) ?_
  refine vc_p rfl rfl rfl (fun _ => (ev_buildS rfl pl_76_0_1_3 asz_76 zr_76 rfl)) ?_
  refine vc_s rfl rfl rfl rfl rfl rfl ?_
  have hsv28 : Value.agg #[intV x.refs, intV 2, intV 0, strV f] = shV ⟨x.refs, 2, 0, x.pg⟩ := by unfold shV fmE fm; simp [hpm]
  refine wl_mapUpdate (k := id) (v := Value.agg #[intV x.refs, intV 2, intV 0, strV f]) 3 hS27 keysInt Tryz.underlying56 rfl rfl rfl rfl ?_
  intro w28 hS28a; dsimp only [List.set] at hS28a; have hS28 := hS28a; rw [hsv28, aG_up] at hS28
  clear hS27
  refine vc_e0 (.skip (by kernel_rfl) (.skip (by kernel_rfl) (.skip (by kernel_rfl) .nil))) ?_
  refine VC.nil (qs_seq ?_)
  refine wc_sub (L' := []) .nil ?_
  refine wc_seq (wc_region (wl_assign rfl rfl (wl_nil (qs_seq (wc_ret ?_)))))
  refine fin1 (.inr rfl) rfl rfl ?_
  have hc1 : S1.cache = S.cache.drop k := by rw [hC0, show i = k by omega]
  have hsm : sumF S1.all S1.cache = sumF S.all (S.cache.drop k) := by rw [hc1]; exact sumF_same fun j _ => by have := hP1.go.same j; cases hq : S1.all j <;> cases hq2 : S.all j <;> simp_all
  have hSe : ({ S1 with all := up S1.all id (some ⟨x.refs, 2, 0, x.pg⟩), cache := S1.cache ++ [id] } : SS) = ⟨up S1.all id (some ⟨x.refs, 2, 0, x.pg⟩), S.inn, S1.cache ++ [id], S.fr, S1.sl, S.ck, S.slots, S.budget, S.next, S.taken⟩ := by rw [← hP1.inn, ← hP1.fr, ← hP1.ck, ← hP1.tak, ← hP1.go.bud, ← hP1.go.slo, ← hP1.go.nxt]
  exact ⟨_, rfl, .inr ⟨f, S1, rfl, rfl, hI1, hP1, by rw [hsm, hP1.go.bud]; omega, by rw [hSe, hc1]; exact shT_shut (hS28.pick [2, 3, 4, 1, 6, 7, 8, 9, 10] rfl)⟩⟩
end Go.Proofs.YtnicmcdeoimhlaaGreat
