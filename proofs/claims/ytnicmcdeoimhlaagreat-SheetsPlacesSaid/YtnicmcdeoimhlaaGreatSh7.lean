/- sheets: evict, get -/
import Derived.Test.YtnicmcdeoimhlaaGreatSh5
import Derived.Test.YtnicmcdeoimhlaaGreatRow
namespace Go.Proofs.YtnicmcdeoimhlaaGreat
open Go.RowKit M
set_option linter.unusedVariables false
set_option maxRecDepth 100000 in
set_option maxHeartbeats 1600000 in
theorem shevict_sp {w : World} {p : Nat} {S : SS} {F : Th} (hS : Sat w [shT p S, F]) {E : Int → Prop} {N : Nat} (hI : ShI E N S) (hN : N ≤ 800000) {f : Int} {b0 : Bs} (hf0 : frAt S.fr f = some b0) :
    Calls Tryz.prog 69 #[ptrV p 0, intV f] w (Ret fun v w' => (v = .bool false ∧ usedN S.sl = S.sl.length ∧ Sat w' [shT p S, F]) ∨ (v = .bool true ∧ ∃ S', EvS E N f S S' ∧ Sat w' [shT p S', F])) := by
 obtain ⟨id, x, hin, hE, hx, hpl, hat, hpg⟩ := frame_has hI hf0
 subst hpg
 have hf := hf0
 have hx64 : x.pg.length = 64 := (hI.ent hx).2.2.2.2.1
 replace hN : N ≤ 900000 := by omega
 obtain ⟨ba, bi, fp, sp, kp, ac, cc, at2, ct, hS⟩ := shT_open hS
 refine calls_enter Tryz.func69 rfl Tryz.ntmps69 rfl ?_
 refine wc_seq (wc_region (wl_assign rfl rfl (wl_nil (qs_seq (wc_seq (wc_region (wl_move rfl rfl (wl_nilCheck rfl rfl ?_))))))))
 refine wl_fieldAddr rfl fo_65_1 rfl ?_
 refine wl_load rfl ag_57 (by first | assumption | exact hS.cell 0 rfl rfl) rfl ?_
 refine wl_move rfl rfl ?_
 refine wl_lookup (k := f) 2 hS keysInt Tryz.underlying57 rfl rfl rfl zr_3 (u := intV id) (gI_some hin) rfl ?_
 refine wl_assign rfl rfl (wl_nil (qs_seq (wc_seq (wc_region (wl_move rfl rfl (wl_nilCheck rfl rfl ?_))))))
 refine wl_fieldAddr rfl fo_65_3 rfl ?_
 refine wl_load rfl ag_58 (by first | assumption | exact hS.cell 0 rfl rfl) rfl ?_
 refine wl_move rfl rfl ?_
 have hC1 := hS.split [4] [false, false, false, false, true, false, false, false, false] rfl; dsimp only [selF, pickA, nthA, List.cons_append, List.nil_append] at hC1
 refine wl_call cal_50 rfl (frpage_sp hC1 f) rfl ?_
 rintro e w1 ⟨_, rfl, rfl, hS1⟩; refine ⟨_, rfl, ?_⟩
 replace hS1 := hS1.join rfl; dsimp only [List.dropLast, List.cons_append, List.nil_append] at hS1; clear hC1
 rw [hf]
 dsimp only [Option.getD_some]
 refine wl_assign rfl rfl (wl_nil (qs_seq ?_))
 refine wc_sub (L' := [(6, _), (5, _), (4, _), (0, _), (1, _)]) (.cons rfl (.cons rfl (.cons rfl (.cons rfl (.cons rfl .nil))))) ?_
 refine wc_seq (wc_seq ?_)
 have hS2 := shT_shut (hS1.pick [1, 2, 3, 4, 0, 5, 6, 7, 8] rfl)
 refine wc_region (wl_move rfl rfl (wl_move rfl rfl (wl_move rfl rfl ?_)))
 have hC3 := hS2.split [0] [true, false] rfl; dsimp only [selF, pickA, nthA, List.cons_append, List.nil_append] at hC3
 refine wl_call cal_94 rfl (shpack_sp hC3 hI hN hx hpl) rfl ?_
 rintro e w3 ⟨_, rfl, (⟨rfl, hS3⟩ | ⟨fx, S1, rfl, hpm, hI1, hP1, hsum, hS3⟩)⟩
 ·refine ⟨_, rfl, ?_⟩
  replace hS3 := hS3.join rfl; dsimp only [List.dropLast, List.cons_append, List.nil_append] at hS3; clear hC3
  clear hS2
  refine wl_not rfl rfl ?_
  refine wl_nil (qs_seq ?_)
  refine wc_cond rfl (fun h4 => ?_) (fun h4 => ?_)
  ·refine wc_seq ?_
   obtain ⟨ba, bi, fp, sp, kp, ac, cc, at2, ct, hSo5⟩ := shT_open (hS3.pick [0, 1] rfl)
   refine wc_region (wl_move rfl rfl (wl_nilCheck rfl rfl ?_))
   refine wl_fieldAddr rfl fo_65_4 rfl ?_
   refine wl_load rfl ag_60 (by first | assumption | exact hSo5.cell 0 rfl rfl) rfl ?_
   refine wl_move rfl rfl ?_
   have hC6 := hSo5.split [5] [false, false, false, false, false, true, false, false, false] rfl; dsimp only [selF, pickA, nthA, List.cons_append, List.nil_append] at hC6
   refine wl_call cal_95 rfl (swput_sp hC6 x.pg hx64) rfl ?_
   rintro e w6 ⟨_, rfl, (⟨hfull, rfl, hS6⟩ | ⟨ks, hks, rfl, hS6⟩)⟩
   ·refine ⟨_, rfl, ?_⟩
    replace hS6 := hS6.join rfl; dsimp only [List.dropLast, List.cons_append, List.nil_append] at hS6; clear hC6
    clear hSo5
    refine wl_move rfl rfl (wl_extract rfl rfl rfl (wl_extract rfl rfl rfl (wl_assign rfl rfl (wl_assign rfl rfl (wl_nil (qs_seq ?_))))))
    refine wc_sub (L' := [(8, _), (7, _), (5, _), (4, _), (0, _), (1, _)]) (.cons rfl (.cons rfl (.cons rfl (.cons rfl (.cons rfl (.cons rfl .nil)))))) ?_
    refine wc_seq (wc_seq (wc_region (wl_move rfl rfl ?_)))
    refine wl_not rfl rfl ?_
    refine wl_nil (qs_seq ?_)
    refine wc_cond rfl (fun h7 => ?_) (fun h7 => ?_)
    ·refine wc_seq (wc_region (wl_assign rfl rfl (wl_nil (qs_seq (wc_ret (qs_then_ret (qs_then_ret ?_)))))))
     refine fin1 (.inr rfl) rfl rfl ?_
     exact ⟨_, rfl, .inl ⟨rfl, hfull, shT_shut (hS6.pick [1, 2, 3, 4, 5, 0, 6, 7, 8] rfl)⟩⟩
    exact absurd h7 (by simp)
   refine ⟨_, rfl, ?_⟩
   replace hS6 := hS6.join rfl; dsimp only [List.dropLast, List.cons_append, List.nil_append] at hS6; clear hC6
   clear hSo5
   refine wl_move rfl rfl (wl_extract rfl rfl rfl (wl_extract rfl rfl rfl (wl_assign rfl rfl (wl_assign rfl rfl (wl_nil (qs_seq ?_))))))
   refine wc_sub (L' := [(8, _), (7, _), (5, _), (4, _), (0, _), (1, _)]) (.cons rfl (.cons rfl (.cons rfl (.cons rfl (.cons rfl (.cons rfl .nil)))))) ?_
   refine wc_seq (wc_seq (wc_region (wl_move rfl rfl ?_)))
   refine wl_not rfl rfl ?_
   refine wl_nil (qs_seq ?_)
   refine wc_cond rfl (fun h8 => ?_) (fun h8 => ?_)
   ·exact absurd h8 (by simp)
   refine wc_skip (qs_seq ?_)
   have hS9 := hS6.drew
   refine wc_draw [0, 1, 2, 3, 4, 5, 6, 7, 8, 9, 10, 11, 12, 13, 14] [14] mix (by kernel_rfl) ?_
   refine vc_p rfl rfl rfl (fun _ => (ev_move rfl)) ?_
   refine vc_p rfl rfl rfl (fun _ => (ev_nilCheck rfl)) ?_
   refine vc_p rfl rfl rfl (fun _ => (ev_fieldAddr rfl fo_65_0)) ?_
   refine vc_q rfl rfl rfl (ev_load rfl ag_56 (by first | assumption | exact hS9.cell 1 rfl rfl)) ?_
   refine vc_p rfl rfl rfl (fun _ => (ev_move rfl)) ?_
   refine vc_p rfl rfl rfl (fun _ => (ev_move rfl)) ?_
   refine vc_p rfl rfl rfl (fun _ => (ev_nilCheck rfl)) ?_
   refine vc_p rfl rfl rfl (fun _ => (ev_fieldAddr rfl fo_65_0)) ?_
   refine vc_q rfl rfl rfl (ev_load rfl ag_56 (by first | assumption | exact hS9.cell 1 rfl rfl)) ?_
   refine vc_p rfl rfl rfl (fun _ => (ev_move rfl)) ?_
   refine vc_q rfl rfl rfl (ev_lookup (k := id) 2 hS9 keysInt Tryz.underlying56 rfl rfl rfl zr_76 (u := (.agg #[intV x.refs, intV x.place, intV x.at_, strV (fmE x)])) (aG_some hx)) ?_
   refine vc_p rfl rfl rfl (fun _ => (ev_field fv_76_0 rfl rfl)) ?_
   refine vc_p rfl rfl rfl (fun _ => (ev_move rfl)) ?_
   refine vc_p rfl rfl rfl (fun _ => (ev_buildS rfl pl_76_0_1_2 asz_76 zr_76 rfl)) ?_
   refine vc_s rfl rfl rfl rfl rfl rfl ?_
   have hsv10 : Value.agg #[intV x.refs, intV 3, intV (ks : Nat), strV []] = shV ⟨x.refs, 3, (ks : Nat), x.pg⟩ := rfl
   refine wl_mapUpdate (k := id) (v := Value.agg #[intV x.refs, intV 3, intV (ks : Nat), strV []]) 2 hS9 keysInt Tryz.underlying56 rfl rfl rfl rfl ?_
   intro w10 hS10a; dsimp only [List.set] at hS10a; have hS10 := hS10a; rw [hsv10, aG_up] at hS10
   clear hS9
   refine vc_e0 (.skip (by kernel_rfl) (.skip (by kernel_rfl) (.skip (by kernel_rfl) .nil))) ?_
   refine VC.nil (qs_seq ?_)
   refine wc_sub (L' := [(4, _), (0, _), (1, _)]) (.cons rfl (.cons rfl (.cons rfl .nil))) ?_
   refine wc_seq ?_
   have hS11 := shT_shut (S := { S with all := up S.all id (some ⟨x.refs, 3, (ks : Nat), x.pg⟩), sl := S.sl.set ks x.pg }) (hS10.pick [1, 2, 3, 4, 5, 0, 6, 7, 8] rfl)
   refine wc_region (wl_move rfl rfl (wl_move rfl rfl ?_))
   have hC12 := hS11.split [0] [true, false] rfl; dsimp only [selF, pickA, nthA, List.cons_append, List.nil_append] at hC12
   refine wl_call cal_65 rfl (shgive_sp hC12 (f := f) (b0 := x.pg) hf (by show S.ck.length = S.fr.length; rw [hI.ck, List.length_map]) (by show S.taken.length ≤ 900000; have := hI.tln; omega)) rfl ?_
   rintro e w12 ⟨_, rfl, rfl, hS12⟩; refine ⟨_, rfl, ?_⟩
   replace hS12 := hS12.join rfl; dsimp only [List.dropLast, List.cons_append, List.nil_append] at hS12; clear hC12
   clear hS11
   refine wl_nil (qs_seq (wc_seq (wc_region (wl_assign rfl rfl (wl_nil (qs_seq (wc_ret ?_)))))))
   refine fin1 (.inr rfl) rfl rfl ?_
   exact ⟨_, rfl, .inr ⟨rfl, _, evict_slot hI hE hx hpl hat hks, hS12.pick [0, 1] rfl⟩⟩
  exact absurd h4 (by simp)
 refine ⟨_, rfl, ?_⟩
 replace hS3 := hS3.join rfl; dsimp only [List.dropLast, List.cons_append, List.nil_append] at hS3; clear hC3
 clear hS2
 refine wl_not rfl rfl ?_
 refine wl_nil (qs_seq ?_)
 refine wc_cond rfl (fun h13 => ?_) (fun h13 => ?_)
 ·exact absurd h13 (by simp)
 refine wc_skip (qs_seq (wc_seq (wc_region (wl_move rfl rfl (wl_move rfl rfl ?_)))))
 have hC14 := hS3.split [0] [true, false] rfl; dsimp only [selF, pickA, nthA, List.cons_append, List.nil_append] at hC14
 refine wl_call cal_65 rfl (shgive_sp hC14 (f := f) (b0 := x.pg) (by show frAt S1.fr f = _; rw [hP1.fr]; exact hf) (by show S1.ck.length = S1.fr.length; rw [hI1.ck, List.length_map]) (by show S1.taken.length ≤ 900000; have := hI1.tln; omega)) rfl ?_
 rintro e w14 ⟨_, rfl, rfl, hS14⟩; refine ⟨_, rfl, ?_⟩
 replace hS14 := hS14.join rfl; dsimp only [List.dropLast, List.cons_append, List.nil_append] at hS14; clear hC14
 clear hS3
 refine wl_nil (qs_seq ?_)
 refine wc_sub (L' := [(4, _)]) (.cons rfl .nil) ?_
 refine wc_seq (wc_region (wl_assign rfl rfl (wl_nil (qs_seq (wc_ret ?_)))))
 refine fin1 (.inr rfl) rfl rfl ?_
 exact ⟨_, rfl, .inr ⟨rfl, _, evict_pack hI hI1 hP1 hE hx hpl hat (by rw [hpm]; simp) (by rw [show fm x.pg = fx by unfold fm; rw [hpm]; rfl]; exact hsum), hS14.pick [0, 1] rfl⟩⟩
noncomputable def gotF (S : SS) (k : Nat) : SS := { S with fr := S.fr.set k (some (b64 [])), ck := S.ck.set k true }
structure GetS (E : Int → Prop) (T : Nat) (k : Nat) (S S' : SS) : Prop where
  inv : ShI E T S'
  go : ShG S S'
  fr : S'.fr[k]? = some none
  lim : ∀ j x, S.all j = some x → E j → S'.all j = some x
theorem get_now {E : Int → Prop} {T : Nat} {S : SS} {k : Nat} (h : ShI E T S) (hk : S.fr[k]? = some none) : GetS E (T + 1) k S S := ⟨h.mono (by omega), ShG.refl S, hk, fun _ _ h _ => h⟩
theorem get_ev {E : Int → Prop} {T : Nat} {S S' : SS} {f : Int} {k : Nat} (h : EvS E T f S S') (hk : S'.fr[k]? = some none) : GetS E (T + 1) k S S' := ⟨h.inv, h.go, hk, h.lim⟩
theorem ck_has {E : Int → Prop} {T : Nat} {S : SS} {k : Nat} (h : ShI E T S) (hk : S.ck[k]? = some true) : ∃ b, frAt S.fr (k : Nat) = some b := by
  rw [h.ck, List.getElem?_map] at hk
  obtain ⟨o, h1, h2⟩ := Option.map_eq_some_iff.1 hk
  obtain ⟨b, rfl⟩ := Option.isSome_iff_exists.1 h2
  refine ⟨b, ?_⟩
  unfold frAt
  rw [if_pos (by omega)]; simp [h1]
theorem ck_some {E : Int → Prop} {T : Nat} {S : SS} (h : ShI E T S) (hall : ∀ o ∈ S.fr, o ≠ none) (hno : ∀ x ∈ S.ck, x = false) : False := by
  have h1 := h.fr1
  obtain ⟨o, ho⟩ : ∃ o, S.fr[0]? = some o := ⟨_, List.getElem?_eq_getElem (by omega)⟩
  have h2 := hall o (List.mem_of_getElem? ho)
  have h3 : S.ck[0]? = some o.isSome := by rw [h.ck, List.getElem?_map, ho]; rfl
  have h4 := hno _ (List.mem_of_getElem? h3)
  cases o with
  | none => exact h2 rfl
  | some b => cases h4
set_option maxRecDepth 100000 in
set_option maxHeartbeats 1600000 in
theorem shget_sp {w : World} {p : Nat} {S : SS} {F : Th} (hS : Sat w [shT p S, F]) {E : Int → Prop} {N : Nat} (hI : ShI E N S) (hN : N ≤ 800000) :
    Calls Tryz.prog 63 #[ptrV p 0] w (Ret fun v w' => (v = .tuple #[intV 0, .bool false] ∧ (∀ o ∈ S.fr, o ≠ none) ∧ usedN S.sl = S.sl.length ∧ Sat w' [shT p S, F]) ∨ (∃ k S1, v = .tuple #[intV (k : Nat), .bool true] ∧ GetS E (N + 1) k S S1 ∧ Sat w' [shT p (gotF S1 k), F])) := by
 obtain ⟨ba, bi, fp, sp, kp, ac, cc, at2, ct, hS⟩ := shT_open hS
 refine calls_enter Tryz.func63 rfl Tryz.ntmps63 rfl ?_
 refine wc_seq (wc_region (wl_assign rfl rfl (wl_assign rfl rfl (wl_nil (qs_seq (wc_seq (wc_region (wl_move rfl rfl (wl_nilCheck rfl rfl ?_)))))))))
 refine wl_fieldAddr rfl fo_65_3 rfl ?_
 refine wl_load rfl ag_58 (by first | assumption | exact hS.cell 0 rfl rfl) rfl ?_
 have hC1 := hS.split [4] [false, false, false, false, true, false, false, false, false] rfl; dsimp only [selF, pickA, nthA, List.cons_append, List.nil_append] at hC1
 refine wl_call cal_89 rfl (fralloc_sp hC1) rfl ?_
 rintro e w1 ⟨_, rfl, (⟨rfl, hall1, hS1⟩ | ⟨k, hk, rfl, hS1⟩)⟩
 ·refine ⟨_, rfl, ?_⟩
  replace hS1 := hS1.join rfl; dsimp only [List.dropLast, List.cons_append, List.nil_append] at hS1; clear hC1
  refine wl_move rfl rfl (wl_extract rfl rfl rfl (wl_extract rfl rfl rfl (wl_assign rfl rfl (wl_assign rfl rfl (wl_nil (qs_seq ?_))))))
  refine wc_sub (L' := [(5, _), (4, _), (3, _), (2, _), (0, _)]) (.cons rfl (.cons rfl (.cons rfl (.cons rfl (.cons rfl .nil))))) ?_
  refine wc_seq (wc_seq (wc_region (wl_move rfl rfl ?_)))
  refine wl_not rfl rfl ?_
  refine wl_nil (qs_seq ?_)
  refine wc_cond rfl (fun h2 => ?_) (fun h2 => ?_)
  ·refine wc_seq (wc_region (wl_move rfl rfl (wl_nilCheck rfl rfl ?_)))
   refine wl_fieldAddr rfl fo_65_5 rfl ?_
   refine wl_load rfl ag_62 (by first | assumption | exact hS1.cell 1 rfl rfl) rfl ?_
   have hC3 := hS1.split [6] [false, false, false, false, false, false, true, false, false] rfl; dsimp only [selF, pickA, nthA, List.cons_append, List.nil_append] at hC3
   refine wl_call cal_68 rfl (ckpick_sp hC3) rfl ?_
   rintro e w3 ⟨_, rfl, (⟨kv, hkv, rfl, hS3⟩ | ⟨hno, rfl, hS3⟩)⟩
   ·refine ⟨_, rfl, ?_⟩
    replace hS3 := hS3.join rfl; dsimp only [List.dropLast, List.cons_append, List.nil_append] at hS3; clear hC3
    clear hS1
    refine wl_move rfl rfl (wl_extract rfl rfl rfl (wl_extract rfl rfl rfl (wl_assign rfl rfl (wl_assign rfl rfl (wl_nil (qs_seq ?_))))))
    refine wc_sub (L' := [(7, _), (6, _), (5, _), (4, _), (3, _), (2, _), (0, _)]) (.cons rfl (.cons rfl (.cons rfl (.cons rfl (.cons rfl (.cons rfl (.cons rfl .nil))))))) ?_
    refine wc_seq (wc_seq (wc_region (wl_move rfl rfl ?_)))
    refine wl_not rfl rfl ?_
    refine wl_move rfl rfl ?_
    refine wl_split 28 rfl (fun h4 => ?_) (fun h4 => ?_)
    ·exact absurd h4 (by simp)
    refine wl_guard rfl rfl h4 ?_
    refine wl_move rfl rfl ?_
    refine wl_guard rfl rfl h4 ?_
    refine wl_move rfl rfl ?_
    refine wl_guard rfl rfl h4 ?_
    have hS5 := shT_shut (hS3.pick [2, 3, 4, 5, 1, 6, 0, 7, 8] rfl)
    obtain ⟨bk, hbk⟩ := ck_has hI hkv
    have hC6 := hS5.split [0] [true, false] rfl; dsimp only [selF, pickA, nthA, List.cons_append, List.nil_append] at hC6
    refine wl_call cal_69 rfl (shevict_sp hC6 hI hN hbk) rfl ?_
    rintro e w6 ⟨_, rfl, (⟨rfl, hfull, hS6⟩ | ⟨rfl, S2, hE2, hS6⟩)⟩
    ·refine ⟨_, rfl, ?_⟩
     replace hS6 := hS6.join rfl; dsimp only [List.dropLast, List.cons_append, List.nil_append] at hS6; clear hC6
     clear hS5
     refine wl_guard rfl rfl h4 ?_
     refine wl_not rfl rfl ?_
     refine wl_pickF rfl h4 rfl rfl ?_
     refine wl_nil (qs_seq ?_)
     refine wc_sub (L' := [(33, _), (5, _), (4, _), (3, _), (2, _), (0, _)]) (.cons rfl (.cons rfl (.cons rfl (.cons rfl (.cons rfl (.cons rfl .nil)))))) ?_
     refine wc_cond rfl (fun h7 => ?_) (fun h7 => ?_)
     ·refine wc_seq (wc_region (wl_assign rfl rfl (wl_assign rfl rfl (wl_nil (qs_seq (wc_ret (qs_then_ret (qs_then_ret ?_))))))))
      refine fin2 (.inr rfl) rfl rfl rfl ?_
      exact ⟨_, rfl, .inl ⟨rfl, hall1, hfull, hS6.pick [0, 1] rfl⟩⟩
     exact absurd h7 (by simp)
    refine ⟨_, rfl, ?_⟩
    replace hS6 := hS6.join rfl; dsimp only [List.dropLast, List.cons_append, List.nil_append] at hS6; clear hC6
    clear hS5
    refine wl_guard rfl rfl h4 ?_
    refine wl_not rfl rfl ?_
    refine wl_pickF rfl h4 rfl rfl ?_
    refine wl_nil (qs_seq ?_)
    refine wc_sub (L' := [(33, _), (5, _), (4, _), (3, _), (2, _), (0, _)]) (.cons rfl (.cons rfl (.cons rfl (.cons rfl (.cons rfl (.cons rfl .nil)))))) ?_
    refine wc_cond rfl (fun h8 => ?_) (fun h8 => ?_)
    ·exact absurd h8 (by simp)
    refine wc_skip (qs_seq ?_)
    obtain ⟨ba, bi, fp, sp, kp, ac, cc, at2, ct, hSo9⟩ := shT_open (hS6.pick [0, 1] rfl)
    refine wc_region (wl_move rfl rfl (wl_nilCheck rfl rfl ?_))
    refine wl_fieldAddr rfl fo_65_3 rfl ?_
    refine wl_load rfl ag_58 (by first | assumption | exact hSo9.cell 0 rfl rfl) rfl ?_
    have hC10 := hSo9.split [4] [false, false, false, false, true, false, false, false, false] rfl; dsimp only [selF, pickA, nthA, List.cons_append, List.nil_append] at hC10
    refine wl_call cal_89 rfl (fralloc_sp hC10) rfl ?_
    rintro e w10 ⟨_, rfl, (⟨rfl, hall2, hS10⟩ | ⟨k, hk, rfl, hS10⟩)⟩
    ·exact absurd rfl (hall2 none (by rw [hE2.fr]; exact List.mem_of_getElem? (List.getElem?_set_self (by have := (frAt_lt hbk).2; omega))))
    refine ⟨_, rfl, ?_⟩
    replace hS10 := hS10.join rfl; dsimp only [List.dropLast, List.cons_append, List.nil_append] at hS10; clear hC10
    clear hSo9
    refine wl_move rfl rfl (wl_extract rfl rfl rfl (wl_extract rfl rfl rfl (wl_assign rfl rfl (wl_assign rfl rfl (wl_nil (qs_seq ?_))))))
    refine wc_sub (L' := [(5, _), (4, _), (3, _), (2, _), (0, _)]) (.cons rfl (.cons rfl (.cons rfl (.cons rfl (.cons rfl .nil))))) ?_
    refine wc_seq (wc_seq (wc_region (wl_move rfl rfl (wl_nil (qs_seq ?_)))))
    refine wc_cond rfl (fun h11 => ?_) (fun h11 => ?_)
    ·refine wc_region (wl_move rfl rfl (wl_nilCheck rfl rfl ?_))
     refine wl_fieldAddr rfl fo_65_5 rfl ?_
     refine wl_load rfl ag_62 (by first | assumption | exact hS10.cell 1 rfl rfl) rfl ?_
     refine wl_move rfl rfl ?_
     have hkl : k < S2.fr.length := (List.getElem?_eq_some_iff.1 hk).1
     have hkc : S2.ck.length = S2.fr.length := by rw [(hE2.inv).ck, List.length_map]
     have hC12 := hS10.split [6] [false, false, false, false, false, false, true, false, false] rfl; dsimp only [selF, pickA, nthA, List.cons_append, List.nil_append] at hC12
     refine wl_call cal_70 rfl (ckuseT hC12 (k : Int) (by omega) 0) rfl ?_
     rintro e w12 ⟨_, rfl, rfl, hS12⟩; refine ⟨_, rfl, ?_⟩
     replace hS12 := hS12.join rfl; dsimp only [List.dropLast, List.cons_append, List.nil_append] at hS12; clear hC12
     clear hS10
     simp only [Int.toNat_natCast] at hS12
     refine wl_nil (qs_seq ?_)
     refine wc_sub (L' := [(5, _), (4, _), (3, _), (2, _)]) (.cons rfl (.cons rfl (.cons rfl (.cons rfl .nil)))) ?_
     refine wc_seq (wc_region (wl_move rfl rfl (wl_move rfl rfl (wl_assign rfl rfl (wl_assign rfl rfl (wl_nil (qs_seq (wc_ret ?_))))))))
     refine fin2 (.inr rfl) rfl rfl rfl ?_
     exact ⟨_, rfl, .inr ⟨k, S2, rfl, get_ev hE2 hk, shT_shut (S := gotF S2 k) (hS12.pick [2, 3, 4, 5, 1, 6, 0, 7, 8] rfl)⟩⟩
    exact absurd h11 (by simp)
   exact (ck_some hI hall1 hno).elim
  exact absurd h2 (by simp)
 refine ⟨_, rfl, ?_⟩
 replace hS1 := hS1.join rfl; dsimp only [List.dropLast, List.cons_append, List.nil_append] at hS1; clear hC1
 refine wl_move rfl rfl (wl_extract rfl rfl rfl (wl_extract rfl rfl rfl (wl_assign rfl rfl (wl_assign rfl rfl (wl_nil (qs_seq ?_))))))
 refine wc_sub (L' := [(5, _), (4, _), (3, _), (2, _), (0, _)]) (.cons rfl (.cons rfl (.cons rfl (.cons rfl (.cons rfl .nil))))) ?_
 refine wc_seq (wc_seq (wc_region (wl_move rfl rfl ?_)))
 refine wl_not rfl rfl ?_
 refine wl_nil (qs_seq ?_)
 refine wc_cond rfl (fun h13 => ?_) (fun h13 => ?_)
 ·exact absurd h13 (by simp)
 refine wc_skip (qs_seq (wc_seq (wc_seq (wc_region (wl_move rfl rfl (wl_nil (qs_seq ?_)))))))
 refine wc_cond rfl (fun h14 => ?_) (fun h14 => ?_)
 ·refine wc_region (wl_move rfl rfl (wl_nilCheck rfl rfl ?_))
  refine wl_fieldAddr rfl fo_65_5 rfl ?_
  refine wl_load rfl ag_62 (by first | assumption | exact hS1.cell 1 rfl rfl) rfl ?_
  refine wl_move rfl rfl ?_
  have hkl : k < S.fr.length := (List.getElem?_eq_some_iff.1 hk).1
  have hkc : S.ck.length = S.fr.length := by rw [(hI).ck, List.length_map]
  have hC15 := hS1.split [6] [false, false, false, false, false, false, true, false, false] rfl; dsimp only [selF, pickA, nthA, List.cons_append, List.nil_append] at hC15
  refine wl_call cal_70 rfl (ckuseT hC15 (k : Int) (by omega) 0) rfl ?_
  rintro e w15 ⟨_, rfl, rfl, hS15⟩; refine ⟨_, rfl, ?_⟩
  replace hS15 := hS15.join rfl; dsimp only [List.dropLast, List.cons_append, List.nil_append] at hS15; clear hC15
  clear hS1
  simp only [Int.toNat_natCast] at hS15
  refine wl_nil (qs_seq ?_)
  refine wc_sub (L' := [(5, _), (4, _), (3, _), (2, _)]) (.cons rfl (.cons rfl (.cons rfl (.cons rfl .nil)))) ?_
  refine wc_seq (wc_region (wl_move rfl rfl (wl_move rfl rfl (wl_assign rfl rfl (wl_assign rfl rfl (wl_nil (qs_seq (wc_ret ?_))))))))
  refine fin2 (.inr rfl) rfl rfl rfl ?_
  exact ⟨_, rfl, .inr ⟨k, S, rfl, get_now hI hk, shT_shut (S := gotF S k) (hS15.pick [2, 3, 4, 5, 1, 6, 0, 7, 8] rfl)⟩⟩
 exact absurd h14 (by simp)
end Go.Proofs.YtnicmcdeoimhlaaGreat
/- Look-ups with two results, and maps with as many keys as another. Conditions: each rule's own hypotheses. -/
namespace Go.Proofs.YtnicmcdeoimhlaaGreat.M
open Go.RowKit
section
variable {P : Program} {n : Nat} {ops : Array Oper} {Q : Exit → Act → World → Prop} {rest : List Oper} {L : Env} {w : World} {d : Nat} {ty : TypeId} {pos : String} {aft : Array Edge} {κ : Type} {kv : κ → Value} {As : List Th}
theorem ev_lookupOk {mt kt et : TypeId} {x y : Operand} {b : Nat} {f : κ → Option Value} {k : κ} {z : Value} (i : Nat) (hS : Sat w As) (K : KeyOk P kt kv) (hm : P.underlying mt = some (.map kt et)) (hi : As[i]? = some (mapT kv b f)) (hx : look L x = some (.map (some b))) (hy : look L y = some (kv k)) (hz : zeroOf P et = some (some z)) {u : Value} {g : Bool} (hv : (f k).getD z = u) (hg : (f k).isSome = g) : Ev P L w ⟨some d, .lookup mt x y true, ty, pos, aft, none⟩ (.tuple #[u, .bool g]) := fun ρ hρ => by
  subst hv; subst hg
  obtain ⟨es, c, h, h2⟩ := hS.map i hi
  have hx' := hρ _ _ hx
  have hy' := hρ _ _ hy
  rcases K.find k es.toList w h.keys with ⟨j, e, h1, h3, h4⟩ | ⟨h1, h4⟩
  · have : (f k) = some e.val := (h2 k e.val).2 ⟨e, List.mem_of_getElem? h1, h3, rfl⟩
    simp [execOp, hx', hy', Instr.lookup, run_underlying hm, MapKept.run_getObj_map h.blk, K.check, h4, this]
  · have : f k = none := by
      cases hf : f k with
      | none => rfl
      | some u => obtain ⟨e, he, hkk, _⟩ := (h2 k u).1 hf; exact absurd hkk (h1 e he)
    simp [execOp, hx', hy', Instr.lookup, run_underlying hm, MapKept.run_getObj_map h.blk, K.check, h4, this, run_zeroOf hz]
theorem wl_lookupOk {mt kt et : TypeId} {x y : Operand} {b : Nat} {f : κ → Option Value} {k : κ} {z : Value} (i : Nat) (hS : Sat w As) (K : KeyOk P kt kv) (hm : P.underlying mt = some (.map kt et)) (hi : As[i]? = some (mapT kv b f)) (hx : look L x = some (.map (some b))) (hy : look L y = some (kv k)) (hz : zeroOf P et = some (some z)) {u : Value} {g : Bool} (hv : (f k).getD z = u) (hg : (f k).isSome = g) (hd : Nat.blt d n = true)
    (hk : wl P n ops Q rest ((d, .tuple #[u, .bool g]) :: L) w) : wl P n ops Q (⟨some d, .lookup mt x y true, ty, pos, aft, none⟩ :: rest) L w := wl_val hd (ev_lookupOk i hS K hm hi hx hy hz hv hg) hk
theorem Card.sub {f g : κ → Option Value} {m : Nat} (h : Card f m) (h' : Card g m) (e : ∀ k v, f k = some v → g k = some v) : f = g := by
  obtain ⟨ks, h1, h2, h3⟩ := h
  obtain ⟨js, g1, g2, g3⟩ := h'
  have s1 : ∀ x ∈ ks, x ∈ js := fun x hx => (g3 x).1 fun q => by
    cases hf : f x with
    | none => exact ((h3 x).2 hx) hf
    | some v => rw [e x v hf] at q; cases q
  have s2 : ∀ x ∈ js, x ∈ ks := fun x hx => Classical.byContradiction fun hn => by
    have := List.Nodup.length_le_of_subset (l₂ := js) (List.nodup_cons.2 ⟨hn, h1⟩) (by
      intro y hy
      rcases List.mem_cons.1 hy with rfl | hy
      · exact hx
      · exact s1 y hy)
    simp at this; omega
  funext k
  cases hf : f k with
  | some v => exact (e k v hf).symm
  | none =>
    cases hg : g k with
    | none => rfl
    | some v => exact absurd hf ((h3 k).2 (s2 k ((g3 k).1 (by rw [hg]; simp))))
end
end Go.Proofs.YtnicmcdeoimhlaaGreat.M
