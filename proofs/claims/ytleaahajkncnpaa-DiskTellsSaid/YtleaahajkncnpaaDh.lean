/- disk: Copy -/
import Derived.Test.YtleaahajkncnpaaDg
namespace Go.Proofs.Ytleaahajkncnpaa
open Go.RowKit M
set_option linter.unusedVariables false
theorem mc1 : (Try.f52.name == "runtime.NumGoroutine") = false := by kernel_rfl
theorem mc2 : Try.f52.body.isNone = true := by kernel_rfl
theorem mc3 : Extern.findNext Try.f52 = none := by kernel_rfl
theorem mc4 : Extern.find Try.f52 = some Extern.MapsClone.clone := by kernel_rfl
theorem cloneF_sp {w : World} {F : Th} {b : Nat} {g : Int → Option Value} (hS : Sat w [mapT intK b g, F]) :
    Calls Try.prog 37 #[.map (some b)] w (Ret fun v w' => ∃ b', v = .map (some b') ∧ Sat w' [mapT intK b' g, mapT intK b g, F]) := by
  refine calls_enter Try.func37 rfl Try.ntmps37 rfl ?_
  refine wc_seq ?_
  refine wc_region ?_
  refine wl_assign rfl rfl ?_
  refine wl_nil ?_
  refine qs_seq ?_
  refine wc_seq ?_
  refine wc_seq ?_
  refine wc_region ?_
  refine wl_move rfl rfl ?_
  refine wl_eqlMapNil Try.underlying49 rfl rfl rfl ?_
  refine wl_nil ?_
  refine qs_seq ?_
  refine wc_condF rfl ?_
  refine wc_skip ?_
  refine qs_seq ?_
  refine wc_seq ?_
  refine wc_region ?_
  refine wl_move rfl rfl ?_
  refine wl_makeIface nif_49 rfl rfl ?_
  refine wl_mapsClone 0 hS Try.func52 mc1 mc2 mc3 mc4 rfl rfl rfl ?_
  intro b9 w9 hS9
  refine wl_typeAssert nif_49 rfl rfl ?_
  refine wl_assign rfl rfl ?_
  refine wl_nil ?_
  refine qs_seq ?_
  refine wc_ret ?_
  refine fin1 (.inr rfl) rfl rfl ?_
  exact ⟨_, rfl, _, rfl, hS9⟩

theorem cloneS_sp {w : World} {F : Th} {b : Nat} {g : Int × Int → Option Value} (hS : Sat w [mapT pairK b g, F]) :
    Calls Try.prog 39 #[.map (some b)] w (Ret fun v w' => ∃ b', v = .map (some b') ∧ Sat w' [mapT pairK b' g, mapT pairK b g, F]) := by
  refine calls_enter Try.func39 rfl Try.ntmps39 rfl ?_
  refine wc_seq ?_
  refine wc_region ?_
  refine wl_assign rfl rfl ?_
  refine wl_nil ?_
  refine qs_seq ?_
  refine wc_seq ?_
  refine wc_seq ?_
  refine wc_region ?_
  refine wl_move rfl rfl ?_
  refine wl_eqlMapNil Try.underlying50 rfl rfl rfl ?_
  refine wl_nil ?_
  refine qs_seq ?_
  refine wc_condF rfl ?_
  refine wc_skip ?_
  refine qs_seq ?_
  refine wc_seq ?_
  refine wc_region ?_
  refine wl_move rfl rfl ?_
  refine wl_makeIface nif_50 rfl rfl ?_
  refine wl_mapsClone 0 hS Try.func52 mc1 mc2 mc3 mc4 rfl rfl rfl ?_
  intro b9 w9 hS9
  refine wl_typeAssert nif_50 rfl rfl ?_
  refine wl_assign rfl rfl ?_
  refine wl_nil ?_
  refine qs_seq ?_
  refine wc_ret ?_
  refine fin1 (.inr rfl) rfl rfl ?_
  exact ⟨_, rfl, _, rfl, hS9⟩

theorem own_nil_sec {w : World} {F : Th} {Q : List (Int × Int)} {cap : Nat} (h : Sat w [ownT (.slice none Q.length cap) Q.length 2 (secV Q), F]) : Q = [] := by
  obtain ⟨f, _, ⟨_, h0, _⟩ | ⟨b, cap, sp, h0, _⟩⟩ := h.own 0 rfl
  · exact List.eq_nil_of_length_eq_zero h0
  · cases h0
theorem secV_one (Q : List (Int × Int)) : allOne (secV Q) = true := allOne_mk (by intro v hv; obtain ⟨p, _, hp⟩ := List.mem_flatMap.1 hv; simp at hp; rcases hp with rfl | rfl <;> rfl)
theorem cloneQ_sp {w : World} {F : Th} {qv : Value} {Q : List (Int × Int)} (hS : Sat w [ownT qv Q.length 2 (secV Q), F]) (hl : Q.length ≤ 4194320) :
    Calls Try.prog 38 #[qv] w (Ret fun v w' => Sat w' [ownT v Q.length 2 (secV Q), ownT qv Q.length 2 (secV Q), F]) := by
  obtain ⟨ao, capq, rfl, hcq, _⟩ := hS.own_shape 0 rfl
  refine calls_enter Try.func38 rfl Try.ntmps38 rfl ?_
  refine wc_seq ?_
  refine wc_region ?_
  refine wl_assign rfl rfl ?_
  refine wl_nil ?_
  refine qs_seq ?_
  refine wc_seq ?_
  refine wc_seq ?_
  refine wc_region ?_
  refine wl_move rfl rfl ?_
  refine wl_eqlSlNil Try.underlying51 rfl rfl rfl ?_
  refine wl_nil ?_
  refine qs_seq ?_
  refine wc_cond rfl (fun h1 => ?_) (fun h1 => ?_)
  · skip
    have hn : ao = none := Option.isNone_iff_eq_none.1 h1
    subst hn
    obtain rfl := own_nil_sec hS
    refine wc_seq ?_
    refine wc_region ?_
    refine wl_assign rfl rfl ?_
    refine wl_nil ?_
    refine qs_seq ?_
    refine wc_ret ?_
    refine qs_then_ret ?_
    refine fin1 (.inr rfl) rfl rfl ?_
    exact ⟨_, rfl, hS.new (Only.refl [] _) (A := ownT (.slice none 0 0) 0 2 []) (F' := fun k => k ∈ ([] : List Nat)) ⟨[], rfl, Own.nil _ 2⟩ (by simp)⟩
  · skip
    refine wc_skip ?_
    refine qs_seq ?_
    refine wc_seq ?_
    refine wc_region ?_
    refine wl_buildSlice hS rfl Try.underlying51 ifz_67 rfl rfl rfl rfl ?_
    intro b2 w2 hS2
    refine wl_move rfl rfl ?_
    first | refine wl_append 0 hS2 rfl rfl rfl Try.underlying51 Try.underlying51 (by intro k hk; cases hk) ifo_67 rfl (by decide) (lenOf_own hS2 1 rfl) (firstCells_own hS2 1 rfl) (secV_length Q) (secV_one _) (by omega) (by omega) rfl ?_
    intro v3 w3 hS3; dsimp only [List.set] at hS3
    clear hS2
    have h1v3 : v3.oneCell' = true := by first | exact hS3.own_one 0 rfl
    refine wl_assign rfl rfl ?_
    refine wl_nil ?_
    refine qs_seq ?_
    refine wc_ret ?_
    refine fin1 (.inr rfl) rfl rfl ?_
    exact ⟨_, rfl, by have h := hS3; rw [Nat.zero_add] at h; exact h⟩

theorem copy_end {w : World} {p p2 bf bs bf2 bs2 : Nat} {kp qv qv2 : Value} {D : DS} {g : Int → Option Value} {gs : Int × Int → Option Value} {F : Th} (hI : DInv D) (hg : SaysF g D.F) (hgs : ∀ p, gs p = if p ∈ D.Q then some (.bool true) else none)
    (h : Sat w [mapT pairK bs2 gs, mapT pairK bs gs, ownT qv2 D.Q.length 2 (secV D.Q), ownT qv D.Q.length 2 (secV D.Q), mapT intK bf2 g, mapT intK bf g, blkT p2 (cellsD ⟨bf2, bs2, qv2⟩ kp D), blkT p (cellsD ⟨bf, bs, qv⟩ kp D), F]) : Sat w [diskT p2 kp D, diskT p kp D, F] := by
  have h1 := setT_shut gs hgs h
  have h2 := setT_shut gs hgs (h1.reorder [1, 0, 2, 3, 4, 5, 6, 7, 8] rfl)
  have h3 := filesT_shut g hg (h2.reorder [4, 5, 0, 1, 2, 3, 6, 7, 8] rfl)
  have h4 := filesT_shut g hg (h3.reorder [1, 0, 2, 3, 4, 5, 6, 7, 8] rfl)
  -- bf, bf2, bs, bs2, q2, q, p2, p, F
  have h5 := diskT_shut (As := [filesT bf D.F, setT bs D.Q, ownT qv D.Q.length 2 (secV D.Q), blkT p (cellsD ⟨bf, bs, qv⟩ kp D), F]) ⟨bf2, bs2, qv2⟩ hI (h4.reorder [6, 1, 4, 3, 0, 2, 5, 7, 8] rfl)
  have h6 := diskT_shut (As := [F, diskT p2 kp D]) ⟨bf, bs, qv⟩ hI (h5.reorder [4, 1, 3, 2, 5, 0] rfl)
  exact h6.reorder [2, 0, 1] rfl
set_option maxRecDepth 100000 in
theorem copy_sp {w : World} {p : Nat} {kp : Value} {D : DS} {F : Th} (hS : Sat w [diskT p kp D, F]) (hK : Ent F (RdI kp D.keep)) :
    Calls Try.prog 17 #[ptrV p 0] w (Ret fun v w' => ∃ p2, v = ptrV p2 0 ∧ Sat w' [diskT p2 kp D, diskT p kp D, F]) := by
  obtain ⟨aok, capk, rfl, _⟩ := (hK.sat hS 1 rfl).shape
  obtain ⟨⟨bf, bs, qv⟩, hI, hS⟩ := diskT_open hS; dsimp only at hS
  refine calls_enter Try.func17 rfl Try.ntmps17 rfl ?_
  obtain ⟨g, hg, hS⟩ := filesT_open (hS.pull 1 rfl); dsimp only [List.eraseIdx] at hS
  obtain ⟨gs, hgs, hS⟩ := setT_open (hS.pull 3 rfl); dsimp only [List.eraseIdx] at hS
  have h1q0 := hS.own_one 3 rfl
  have hone : allOne (cellsD ⟨bf, bs, qv⟩ (.slice aok D.keep.length capk) D) = true := by simp [allOne, cellsD, Value.oneCell', h1q0] at h1q0 ⊢; exact h1q0
  refine wc_seq ?_
  refine wc_region ?_
  refine wl_assign rfl rfl ?_
  refine wl_nil ?_
  refine qs_seq ?_
  refine wc_seq ?_
  refine wc_region ?_
  refine wl_move rfl rfl ?_
  refine wl_nilCheck rfl rfl ?_
  refine wl_loadA rfl ag_53 sz_53 (by first | exact hS.blk 2 rfl) (by first | decide | exact Nat.le_of_ble_eq_true rfl | (simp; done) | omega) rfl rfl ?_
  refine wl_alloc hS zr_53 rfl rfl ?_
  intro b1 w1 hS1
  first | (refine wl_storeA hS1 rfl rfl sz_53 rfl (by first | rfl | (simp [allOne, Value.oneCell']; done) | assumption | exact hone) (i := 0) rfl (by first | decide | exact Nat.le_of_ble_eq_true rfl | (simp; done) | omega) ?_) | (refine wl_storeA hS1 rfl rfl sz_53 rfl (by first | rfl | (simp [allOne, Value.oneCell']; done) | assumption | exact hone) (i := 3) rfl (by first | decide | exact Nat.le_of_ble_eq_true rfl | (simp; done) | omega) ?_)
  intro w2 hS3; dsimp only [List.set] at hS3
  clear hS1
  refine wl_nil ?_
  refine qs_seq ?_
  refine wc_seq ?_
  have hS4 := hS3.drew
  refine wc_draw [0, 1, 2, 3, 5, 6, 7, 8, 10, 11, 12, 13, 4, 9, 14, 15, 16, 17, 18, 19, 20] [4, 9, 14, 16, 18, 20] mix (by kernel_rfl) ?_
  refine vc_p rfl rfl rfl (fun _ => (ev_move rfl)) ?_
  refine vc_p rfl rfl rfl (fun _ => (ev_nilCheck rfl)) ?_
  refine vc_p rfl rfl rfl (fun _ => (ev_fieldAddr rfl fo_53_0)) ?_
  refine vc_q rfl rfl rfl (ev_load rfl ag_49 (by first | assumption | exact hS4.cell 0 rfl rfl | exact hS4.cell 3 rfl rfl)) ?_
  refine vc_p rfl rfl rfl (fun _ => (ev_move rfl)) ?_
  refine vc_p rfl rfl rfl (fun _ => (ev_nilCheck rfl)) ?_
  refine vc_p rfl rfl rfl (fun _ => (ev_fieldAddr rfl fo_53_1)) ?_
  refine vc_q rfl rfl rfl (ev_load rfl ag_51 (by first | assumption | exact hS4.cell 0 rfl rfl | exact hS4.cell 3 rfl rfl)) ?_
  refine vc_p rfl rfl rfl (fun _ => (ev_move rfl)) ?_
  refine vc_p rfl rfl rfl (fun _ => (ev_nilCheck rfl)) ?_
  refine vc_p rfl rfl rfl (fun _ => (ev_fieldAddr rfl fo_53_2)) ?_
  refine vc_q rfl rfl rfl (ev_load rfl ag_50 (by first | assumption | exact hS4.cell 0 rfl rfl | exact hS4.cell 3 rfl rfl)) ?_
  refine vc_s rfl rfl rfl rfl rfl rfl ?_
  have hC5 := hS4.split [2] [false, false, true, false, false, false] rfl; dsimp only [selF, pickA, nthA, List.cons_append, List.nil_append] at hC5
  refine wl_call cal_37 rfl (cloneF_sp hC5) rfl ?_
  rintro e w5 ⟨_, rfl, b5, rfl, hS5⟩; refine ⟨_, rfl, ?_⟩
  replace hS5 := hS5.join rfl; dsimp only [List.dropLast, List.cons_append, List.nil_append] at hS5; clear hC5
  clear hS4
  refine vc_e (.cons (.inl ⟨rfl, (ev_load rfl ag_50 (by first | assumption | exact hS5.cell 2 rfl rfl | exact hS5.cell 4 rfl rfl))⟩) (.cons (.inl ⟨rfl, (ev_load rfl ag_51 (by first | assumption | exact hS5.cell 2 rfl rfl | exact hS5.cell 4 rfl rfl))⟩) (.skip (by kernel_rfl) .nil))) ?_
  refine vc_s rfl rfl rfl rfl rfl rfl ?_
  have hC6 := hS5.split [5] [false, false, false, false, false, true, false] rfl; dsimp only [selF, pickA, nthA, List.cons_append, List.nil_append] at hC6
  refine wl_call cal_38 rfl (cloneQ_sp hC6 (sec_count hI.secs hI.nodup)) rfl ?_
  rintro e w6 ⟨_, rfl, hS6⟩; refine ⟨_, rfl, ?_⟩
  replace hS6 := hS6.join rfl; dsimp only [List.dropLast, List.cons_append, List.nil_append] at hS6; clear hC6
  clear hS5
  have h1q := hS6.own_one 0 rfl
  refine vc_e (.cons (.inl ⟨rfl, (ev_load rfl ag_50 (by first | assumption | exact hS6.cell 4 rfl rfl | exact hS6.cell 6 rfl rfl))⟩) (.skip (by kernel_rfl) (.skip (by kernel_rfl) .nil))) ?_
  refine vc_s rfl rfl rfl rfl rfl rfl ?_
  have hC7 := hS6.split [5] [false, false, false, false, false, true, false, false] rfl; dsimp only [selF, pickA, nthA, List.cons_append, List.nil_append] at hC7
  refine wl_call cal_39 rfl (cloneS_sp hC7) rfl ?_
  rintro e w7 ⟨_, rfl, b7, rfl, hS7⟩; refine ⟨_, rfl, ?_⟩
  replace hS7 := hS7.join rfl; dsimp only [List.dropLast, List.cons_append, List.nil_append] at hS7; clear hC7
  clear hS6
  refine vc_e (.skip (by kernel_rfl) (.skip (by kernel_rfl) (.skip (by kernel_rfl) .nil))) ?_
  refine vc_p rfl rfl rfl (fun _ => (ev_fieldAddr rfl fo_53_0)) ?_
  refine vc_s rfl rfl rfl rfl rfl rfl ?_
  first | (refine wl_store hS7 rfl rfl sz_49 (by first | rfl | assumption) (i := 6) rfl (by first | decide | exact Nat.le_of_ble_eq_true rfl | (simp; done) | omega) ?_) | (refine wl_store hS7 rfl rfl sz_49 (by first | rfl | assumption) (i := 7) rfl (by first | decide | exact Nat.le_of_ble_eq_true rfl | (simp; done) | omega) ?_)
  intro w8 hS9; dsimp only [List.set] at hS9
  clear hS7
  refine vc_e0 (.skip (by kernel_rfl) (.skip (by kernel_rfl) (.skip (by kernel_rfl) .nil))) ?_
  refine vc_p rfl rfl rfl (fun _ => (ev_fieldAddr rfl fo_53_1)) ?_
  refine vc_s rfl rfl rfl rfl rfl rfl ?_
  first | (refine wl_store hS9 rfl rfl sz_51 (by first | rfl | assumption) (i := 6) rfl (by first | decide | exact Nat.le_of_ble_eq_true rfl | (simp; done) | omega) ?_) | (refine wl_store hS9 rfl rfl sz_51 (by first | rfl | assumption) (i := 7) rfl (by first | decide | exact Nat.le_of_ble_eq_true rfl | (simp; done) | omega) ?_)
  intro w10 hS11; dsimp only [List.set] at hS11
  clear hS9
  refine vc_e0 (.skip (by kernel_rfl) (.skip (by kernel_rfl) (.skip (by kernel_rfl) .nil))) ?_
  refine vc_p rfl rfl rfl (fun _ => (ev_fieldAddr rfl fo_53_2)) ?_
  refine vc_s rfl rfl rfl rfl rfl rfl ?_
  first | (refine wl_store hS11 rfl rfl sz_50 (by first | rfl | assumption) (i := 6) rfl (by first | decide | exact Nat.le_of_ble_eq_true rfl | (simp; done) | omega) ?_) | (refine wl_store hS11 rfl rfl sz_50 (by first | rfl | assumption) (i := 7) rfl (by first | decide | exact Nat.le_of_ble_eq_true rfl | (simp; done) | omega) ?_)
  intro w12 hS13; dsimp only [List.set] at hS13
  clear hS11
  refine vc_e0 (.skip (by kernel_rfl) (.skip (by kernel_rfl) (.skip (by kernel_rfl) .nil))) ?_
  refine VC.nil ?_
  refine qs_seq ?_
  refine wc_sub (L' := [(3, _), (2, _)]) (.cons rfl (.cons rfl .nil)) ?_
  refine wc_seq ?_
  refine wc_region ?_
  refine wl_assign rfl rfl ?_
  refine wl_nil ?_
  refine qs_seq ?_
  refine wc_ret ?_
  refine fin1 (.inr rfl) rfl rfl ?_
  exact ⟨_, rfl, _, rfl, copy_end hI hg hgs hS13⟩

end Go.Proofs.Ytleaahajkncnpaa
