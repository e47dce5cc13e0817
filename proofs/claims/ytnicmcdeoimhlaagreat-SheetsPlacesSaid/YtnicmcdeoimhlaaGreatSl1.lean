/- laws of sheets: do -/
import Derived.Test.YtnicmcdeoimhlaaGreatSh13
namespace Go.Proofs.YtnicmcdeoimhlaaGreat
open Go.RowKit M
set_option linter.unusedVariables false
theorem shmake_or {w : World} {p : Nat} {S : SS} {F : Th} (hS : Sat w [shT p S, F]) {N : Nat} (hI : ShI no0 N S) (hN : N ≤ 800000) {page : Bs} (hpg : page.length = 64) : Calls Tryz.prog 27 #[ptrV p 0, strV page] w (Ret fun v w' => (page = zer ∧ v = .tuple #[intV 0, intV 0] ∧ Sat w' [shT p S, F]) ∨ (page ≠ zer ∧ v = .tuple #[intV 0, intV 6] ∧ (∀ o ∈ S.fr, o ≠ none) ∧ usedN S.sl = S.sl.length ∧ Sat w' [shT p S, F]) ∨ (∃ S', page ≠ zer ∧ v = .tuple #[intV S.next, intV 0] ∧ NewS N S S' S.next page ∧ Sat w' [shT p S', F])) := by
  refine (shmake_sp hS hI hN hpg).mono fun e w h => h.mono fun v w h => ?_
  rcases h with h | ⟨h1, ⟨h2, h3, h4, h5⟩ | ⟨h2, S', h3, h4⟩⟩
  · exact .inl h
  · exact .inr (.inl ⟨h1, h2, h3, h4, h5⟩)
  · exact .inr (.inr ⟨S', h1, h2, h3, h4⟩)
set_option maxRecDepth 100000 in
set_option maxHeartbeats 1600000 in
theorem do_sp {w : World} {p : Nat} {S : SS} {F : Th} (hS : Sat w [shT p S, F]) {N : Nat} (hI : ShI no0 N S) (hN : N ≤ 700000) (o : OpD) (ho : okO o = true) :
    Calls Tryz.prog 11 #[ptrV p 0, .agg #[intV o.d, intV o.id, intV o.at_, intV o.n, strV o.s]] w (Ret fun v w' => ∃ a e S', v = .tuple #[intV a, intV e] ∧ DoP N S S' o a e ∧ Sat w' [shT p S', F]) := by
 have hoe : o.d = 5 → o.n ≤ 300 := by intro q; simp [okO] at ho; omega
 refine calls_enter Tryz.func11 rfl Tryz.ntmps11 rfl ?_
 refine wc_seq (wc_region ?_)
 refine wl_box hS rfl rfl rfl ?_
 intro qb w1 hS1
 refine wl_assign rfl rfl (wl_assign rfl rfl (wl_nil (qs_seq (wc_seq (wc_seq (wc_region ?_))))))
 refine wl_fieldAddr rfl fo_33_0 rfl ?_
 refine wl_load rfl ag_3 (by first | assumption | exact hS1.cell 0 rfl rfl) rfl ?_
 refine wl_nil (qs_seq (wc_block (wc_seq (wc_region ?_))))
 refine wl_eql rfl rfl rfl ?_
 refine wl_assign rfl rfl (wl_nil (qs_seq ?_))
 refine wc_condD rfl (fun h2 => ?_) (fun h2 => ?_)
 ·have hd : o.d = 0 := h2
  refine wc_seq (wc_region (wl_move rfl rfl ?_))
  refine wl_fieldAddr rfl fo_33_4 rfl ?_
  refine wl_load rfl ag_9 (by first | assumption | exact hS1.cell 0 rfl rfl) rfl ?_
  have hC3 := hS1.split [] [false, false, false] rfl; dsimp only [selF, pickA, nthA, List.cons_append, List.nil_append] at hC3
  refine wl_call cal_12 rfl (page_sp hC3 o.s) rfl ?_
  rintro e w3 ⟨_, rfl, rfl, hS3⟩; refine ⟨_, rfl, ?_⟩
  replace hS3 := hS3.join rfl; dsimp only [List.dropLast, List.cons_append, List.nil_append] at hS3; clear hC3
  clear hS1
  have hC4 := hS3.split [1] [false, true, false] rfl; dsimp only [selF, pickA, nthA, List.cons_append, List.nil_append] at hC4
  refine wl_call cal_27 rfl (shmake_or hC4 hI (by omega) (b64_len o.s)) rfl ?_
  rintro e w4 ⟨_, rfl, (⟨hz, rfl, hS4⟩ | ⟨hz, rfl, _, _, hS4⟩ | ⟨S2, hz, rfl, hn, hS4⟩)⟩
  ·refine ⟨_, rfl, ?_⟩
   replace hS4 := hS4.join rfl; dsimp only [List.dropLast, List.cons_append, List.nil_append] at hS4; clear hC4
   clear hS3
   refine wl_extract rfl rfl rfl (wl_extract rfl rfl rfl (wl_assign rfl rfl (wl_assign rfl rfl (wl_nil (qs_seq ?_)))))
   refine wc_sub (L' := [(5, _), (4, _)]) (.cons rfl (.cons rfl .nil)) ?_
   refine wc_ret (qs_block_ret (qs_then_ret ?_))
   refine fin2 (.inr rfl) rfl rfl rfl ?_
   exact ⟨_, rfl, _, _, S, rfl, ⟨(hI).mono (by omega), (ShF.refl S), .inl ⟨hd, hz, rfl, rfl, rfl⟩⟩, hS4.pick [0, 2] rfl⟩
  ·refine ⟨_, rfl, ?_⟩
   replace hS4 := hS4.join rfl; dsimp only [List.dropLast, List.cons_append, List.nil_append] at hS4; clear hC4
   clear hS3
   refine wl_extract rfl rfl rfl (wl_extract rfl rfl rfl (wl_assign rfl rfl (wl_assign rfl rfl (wl_nil (qs_seq ?_)))))
   refine wc_sub (L' := [(5, _), (4, _)]) (.cons rfl (.cons rfl .nil)) ?_
   refine wc_ret (qs_block_ret (qs_then_ret ?_))
   refine fin2 (.inr rfl) rfl rfl rfl ?_
   exact ⟨_, rfl, _, _, S, rfl, ⟨(hI).mono (by omega), (ShF.refl S), .inr (.inl ⟨.inl ⟨hd, hz⟩, .inl ⟨rfl, rfl, rfl⟩⟩)⟩, hS4.pick [0, 2] rfl⟩
  refine ⟨_, rfl, ?_⟩
  replace hS4 := hS4.join rfl; dsimp only [List.dropLast, List.cons_append, List.nil_append] at hS4; clear hC4
  clear hS3
  refine wl_extract rfl rfl rfl (wl_extract rfl rfl rfl (wl_assign rfl rfl (wl_assign rfl rfl (wl_nil (qs_seq ?_)))))
  refine wc_sub (L' := [(5, _), (4, _)]) (.cons rfl (.cons rfl .nil)) ?_
  refine wc_ret (qs_block_ret (qs_then_ret ?_))
  refine fin2 (.inr rfl) rfl rfl rfl ?_
  exact ⟨_, rfl, _, _, S2, rfl, ⟨(hn.inv).mono (by omega), hn.f, .inr (.inl ⟨.inl ⟨hd, hz⟩, .inr ⟨hn.pos, rfl, vw_none hn.was, hn.is⟩⟩)⟩, hS4.pick [0, 2] rfl⟩
 have hF0 : ¬ o.d = 0 := h2
 refine wc_seq (wc_region ?_)
 refine wl_eql rfl rfl rfl ?_
 refine wl_assign rfl rfl (wl_nil (qs_seq ?_))
 refine wc_sub (L' := [(17, _), (7, _), (5, _), (4, _), (3, _), (0, _)]) (.cons rfl (.cons rfl (.cons rfl (.cons rfl (.cons rfl (.cons rfl .nil)))))) ?_
 refine wc_condD rfl (fun h5 => ?_) (fun h5 => ?_)
 ·have hd : o.d = 1 := h5
  refine wc_seq (wc_region (wl_move rfl rfl ?_))
  refine wl_fieldAddr rfl fo_33_1 rfl ?_
  refine wl_load rfl ag_3 (by first | assumption | exact hS1.cell 0 rfl rfl) rfl ?_
  have hC6 := hS1.split [1] [false, true, false] rfl; dsimp only [selF, pickA, nthA, List.cons_append, List.nil_append] at hC6
  refine wl_call cal_32 rfl (shref_or hC6 hI (by omega) o.id) rfl ?_
  rintro e w6 ⟨_, rfl, (⟨e0, hr, rfl, hS6⟩ | ⟨x, hr, rfl, hS6⟩)⟩
  ·refine ⟨_, rfl, ?_⟩
   replace hS6 := hS6.join rfl; dsimp only [List.dropLast, List.cons_append, List.nil_append] at hS6; clear hC6
   clear hS1
   refine wl_assign rfl rfl (wl_assign rfl rfl (wl_nil (qs_seq (wc_ret (qs_block_ret (qs_then_ret ?_))))))
   refine fin2 (.inr rfl) rfl rfl rfl ?_
   exact ⟨_, rfl, _, _, S, rfl, ⟨(hI).mono (by omega), (ShF.refl S), .inr (.inr (.inl ⟨hd, rfl, .inl ⟨vw_none hr, rfl⟩⟩))⟩, hS6.pick [0, 2] rfl⟩
  refine ⟨_, rfl, ?_⟩
  replace hS6 := hS6.join rfl; dsimp only [List.dropLast, List.cons_append, List.nil_append] at hS6; clear hC6
  clear hS1
  refine wl_assign rfl rfl (wl_assign rfl rfl (wl_nil (qs_seq (wc_ret (qs_block_ret (qs_then_ret ?_))))))
  refine fin2 (.inr rfl) rfl rfl rfl ?_
  have hrf := refs_of (r := x.refs + 1) hI hr (by have := (hI.ent hr).2.2; omega)
  exact ⟨_, rfl, _, _, _, rfl, ⟨(hrf.1).mono (by omega), hrf.2.1, .inr (.inr (.inl ⟨hd, rfl, .inr ⟨_, _, vw_some hr, rfl, hrf.2.2⟩⟩))⟩, hS6.pick [0, 2] rfl⟩
 have hF1 : ¬ o.d = 1 := h5
 refine wc_seq (wc_region ?_)
 refine wl_eql rfl rfl rfl ?_
 refine wl_assign rfl rfl (wl_nil (qs_seq ?_))
 refine wc_condD rfl (fun h7 => ?_) (fun h7 => ?_)
 ·have hd : o.d = 2 := h7
  refine wc_seq (wc_region (wl_move rfl rfl ?_))
  refine wl_fieldAddr rfl fo_33_1 rfl ?_
  refine wl_load rfl ag_3 (by first | assumption | exact hS1.cell 0 rfl rfl) rfl ?_
  have hC8 := hS1.split [1] [false, true, false] rfl; dsimp only [selF, pickA, nthA, List.cons_append, List.nil_append] at hC8
  refine wl_call cal_26 rfl (shunref_or hC8 hI (by omega) o.id) rfl ?_
  rintro e w8 ⟨_, rfl, (⟨e0, hr, rfl, _, hS8⟩ | ⟨x, hr, rfl, h1r, hS8⟩ | ⟨x, S2, hr, rfl, h1r, hD, hS8⟩)⟩
  ·refine ⟨_, rfl, ?_⟩
   replace hS8 := hS8.join rfl; dsimp only [List.dropLast, List.cons_append, List.nil_append] at hS8; clear hC8
   clear hS1
   refine wl_assign rfl rfl (wl_assign rfl rfl (wl_nil (qs_seq ?_)))
   refine wc_sub (L' := [(5, _), (4, _)]) (.cons rfl (.cons rfl .nil)) ?_
   refine wc_ret (qs_block_ret (qs_then_ret ?_))
   refine fin2 (.inr rfl) rfl rfl rfl ?_
   exact ⟨_, rfl, _, _, S, rfl, ⟨(hI).mono (by omega), (ShF.refl S), .inr (.inr (.inr (.inl ⟨hd, rfl, .inl ⟨vw_none hr, rfl⟩⟩)))⟩, hS8.pick [0, 2] rfl⟩
  ·refine ⟨_, rfl, ?_⟩
   replace hS8 := hS8.join rfl; dsimp only [List.dropLast, List.cons_append, List.nil_append] at hS8; clear hC8
   clear hS1
   refine wl_assign rfl rfl (wl_assign rfl rfl (wl_nil (qs_seq ?_)))
   refine wc_sub (L' := [(5, _), (4, _)]) (.cons rfl (.cons rfl .nil)) ?_
   refine wc_ret (qs_block_ret (qs_then_ret ?_))
   refine fin2 (.inr rfl) rfl rfl rfl ?_
   have hrf := refs_of (r := x.refs - 1) hI hr (by have := (hI.ent hr).2.2; omega)
   exact ⟨_, rfl, _, _, _, rfl, ⟨(hrf.1).mono (by omega), hrf.2.1, .inr (.inr (.inr (.inl ⟨hd, rfl, .inr ⟨_, _, vw_some hr, rfl, .inl ⟨h1r, hrf.2.2⟩⟩⟩)))⟩, hS8.pick [0, 2] rfl⟩
  refine ⟨_, rfl, ?_⟩
  replace hS8 := hS8.join rfl; dsimp only [List.dropLast, List.cons_append, List.nil_append] at hS8; clear hC8
  clear hS1
  refine wl_assign rfl rfl (wl_assign rfl rfl (wl_nil (qs_seq ?_)))
  refine wc_sub (L' := [(5, _), (4, _)]) (.cons rfl (.cons rfl .nil)) ?_
  refine wc_ret (qs_block_ret (qs_then_ret ?_))
  refine fin2 (.inr rfl) rfl rfl rfl ?_
  exact ⟨_, rfl, _, _, S2, rfl, ⟨(hD.inv).mono (by omega), hD.f, .inr (.inr (.inr (.inl ⟨hd, rfl, .inr ⟨_, _, vw_some hr, rfl, .inr ⟨h1r, hD.is⟩⟩⟩)))⟩, hS8.pick [0, 2] rfl⟩
 have hF2 : ¬ o.d = 2 := h7
 refine wc_seq (wc_region ?_)
 refine wl_eql rfl rfl rfl ?_
 refine wl_assign rfl rfl (wl_nil (qs_seq ?_))
 refine wc_condD rfl (fun h9 => ?_) (fun h9 => ?_)
 ·have hd : o.d = 3 := h9
  refine wc_seq (wc_region (wl_move rfl rfl ?_))
  refine wl_fieldAddr rfl fo_33_1 rfl ?_
  refine wl_load rfl ag_3 (by first | assumption | exact hS1.cell 0 rfl rfl) rfl ?_
  refine wl_fieldAddr rfl fo_33_2 rfl ?_
  refine wl_load rfl ag_3 (by first | assumption | exact hS1.cell 0 rfl rfl) rfl ?_
  refine wl_fieldAddr rfl fo_33_3 rfl ?_
  refine wl_load rfl ag_3 (by first | assumption | exact hS1.cell 0 rfl rfl) rfl ?_
  refine wl_convII Tryz.underlying3 Tryz.underlying5 rfl (c := ((u8 o.n).toNat : Int)) (wrapU8 o.n) rfl ?_
  have hC10 := hS1.split [1] [false, true, false] rfl; dsimp only [selF, pickA, nthA, List.cons_append, List.nil_append] at hC10
  refine wl_call cal_33 rfl (shset_sp hC10 hI (by omega) o.id o.at_ (u8 o.n)) rfl ?_
  rintro e w10 ⟨_, rfl, (⟨e0, rfl, he, hS10⟩ | ⟨x, S2, hr, rfl, hrng, hs, hS10⟩)⟩
  ·refine ⟨_, rfl, ?_⟩
   replace hS10 := hS10.join rfl; dsimp only [List.dropLast, List.cons_append, List.nil_append] at hS10; clear hC10
   clear hS1
   refine wl_assign rfl rfl (wl_assign rfl rfl (wl_nil (qs_seq ?_)))
   refine wc_sub (L' := [(5, _), (4, _)]) (.cons rfl (.cons rfl .nil)) ?_
   refine wc_ret (qs_block_ret (qs_then_ret ?_))
   refine fin2 (.inr rfl) rfl rfl rfl ?_
   exact ⟨_, rfl, _, _, S, rfl, ⟨(hI).mono (by omega), (ShF.refl S), .inr (.inr (.inr (.inr (.inl ⟨hd, rfl, .inl ⟨he, rfl⟩⟩))))⟩, hS10.pick [0, 2] rfl⟩
  refine ⟨_, rfl, ?_⟩
  replace hS10 := hS10.join rfl; dsimp only [List.dropLast, List.cons_append, List.nil_append] at hS10; clear hC10
  clear hS1
  refine wl_assign rfl rfl (wl_assign rfl rfl (wl_nil (qs_seq ?_)))
  refine wc_sub (L' := [(5, _), (4, _)]) (.cons rfl (.cons rfl .nil)) ?_
  refine wc_ret (qs_block_ret (qs_then_ret ?_))
  refine fin2 (.inr rfl) rfl rfl rfl ?_
  exact ⟨_, rfl, _, _, S2, rfl, ⟨(hs.inv).mono (by omega), hs.f, .inr (.inr (.inr (.inr (.inl ⟨hd, rfl, .inr ⟨_, _, vw_some hr, rfl, hrng, hs.is⟩⟩))))⟩, hS10.pick [0, 2] rfl⟩
 have hF3 : ¬ o.d = 3 := h9
 refine wc_seq (wc_region ?_)
 refine wl_eql rfl rfl rfl ?_
 refine wl_assign rfl rfl (wl_nil (qs_seq ?_))
 refine wc_sub (L' := [(40, _), (7, _), (5, _), (4, _), (3, _), (0, _)]) (.cons rfl (.cons rfl (.cons rfl (.cons rfl (.cons rfl (.cons rfl .nil)))))) ?_
 refine wc_condD rfl (fun h11 => ?_) (fun h11 => ?_)
 ·have hd : o.d = 4 := h11
  refine wc_seq (wc_region (wl_move rfl rfl ?_))
  refine wl_fieldAddr rfl fo_33_1 rfl ?_
  refine wl_load rfl ag_3 (by first | assumption | exact hS1.cell 0 rfl rfl) rfl ?_
  have hC12 := hS1.split [1] [false, true, false] rfl; dsimp only [selF, pickA, nthA, List.cons_append, List.nil_append] at hC12
  refine wl_call cal_24 rfl (shbring_or hC12 hI (by omega) o.id) rfl ?_
  rintro e w12 ⟨_, rfl, (⟨hr, rfl, hS12⟩ | ⟨x, hr, hp1, rfl, hS12⟩ | ⟨x, k, S2, hr, hp1, rfl, hB, hS12⟩ | ⟨x, hr, hp1, rfl, _, _, hS12⟩)⟩
  ·refine ⟨_, rfl, ?_⟩
   replace hS12 := hS12.join rfl; dsimp only [List.dropLast, List.cons_append, List.nil_append] at hS12; clear hC12
   clear hS1
   refine wl_extract rfl rfl rfl (wl_extract rfl rfl rfl (wl_assign rfl rfl (wl_assign rfl rfl (wl_nil (qs_seq ?_)))))
   refine wc_sub (L' := [(5, _), (4, _)]) (.cons rfl (.cons rfl .nil)) ?_
   refine wc_ret (qs_block_ret (qs_then_ret ?_))
   refine fin2 (.inr rfl) rfl rfl rfl ?_
   exact ⟨_, rfl, _, _, S, rfl, ⟨(hI).mono (by omega), (ShF.refl S), .inr (.inr (.inr (.inr (.inr (.inr ⟨by omega, rfl⟩)))))⟩, hS12.pick [0, 2] rfl⟩
  ·refine ⟨_, rfl, ?_⟩
   replace hS12 := hS12.join rfl; dsimp only [List.dropLast, List.cons_append, List.nil_append] at hS12; clear hC12
   clear hS1
   refine wl_extract rfl rfl rfl (wl_extract rfl rfl rfl (wl_assign rfl rfl (wl_assign rfl rfl (wl_nil (qs_seq ?_)))))
   refine wc_sub (L' := [(5, _), (4, _)]) (.cons rfl (.cons rfl .nil)) ?_
   refine wc_ret (qs_block_ret (qs_then_ret ?_))
   refine fin2 (.inr rfl) rfl rfl rfl ?_
   exact ⟨_, rfl, _, _, S, rfl, ⟨(hI).mono (by omega), (ShF.refl S), .inr (.inr (.inr (.inr (.inr (.inr ⟨by omega, rfl⟩)))))⟩, hS12.pick [0, 2] rfl⟩
  ·refine ⟨_, rfl, ?_⟩
   replace hS12 := hS12.join rfl; dsimp only [List.dropLast, List.cons_append, List.nil_append] at hS12; clear hC12
   clear hS1
   refine wl_extract rfl rfl rfl (wl_extract rfl rfl rfl (wl_assign rfl rfl (wl_assign rfl rfl (wl_nil (qs_seq ?_)))))
   refine wc_sub (L' := [(5, _), (4, _)]) (.cons rfl (.cons rfl .nil)) ?_
   refine wc_ret (qs_block_ret (qs_then_ret ?_))
   refine fin2 (.inr rfl) rfl rfl rfl ?_
   exact ⟨_, rfl, _, _, S2, rfl, ⟨(hB.inv).mono (by omega), hB.go.f, .inr (.inr (.inr (.inr (.inr (.inr ⟨by omega, hB.go.vw⟩)))))⟩, hS12.pick [0, 2] rfl⟩
  refine ⟨_, rfl, ?_⟩
  replace hS12 := hS12.join rfl; dsimp only [List.dropLast, List.cons_append, List.nil_append] at hS12; clear hC12
  clear hS1
  refine wl_extract rfl rfl rfl (wl_extract rfl rfl rfl (wl_assign rfl rfl (wl_assign rfl rfl (wl_nil (qs_seq ?_)))))
  refine wc_sub (L' := [(5, _), (4, _)]) (.cons rfl (.cons rfl .nil)) ?_
  refine wc_ret (qs_block_ret (qs_then_ret ?_))
  refine fin2 (.inr rfl) rfl rfl rfl ?_
  exact ⟨_, rfl, _, _, S, rfl, ⟨(hI).mono (by omega), (ShF.refl S), .inr (.inr (.inr (.inr (.inr (.inr ⟨by omega, rfl⟩)))))⟩, hS12.pick [0, 2] rfl⟩
 have hF4 : ¬ o.d = 4 := h11
 refine wc_seq (wc_region ?_)
 refine wl_eql rfl rfl rfl ?_
 refine wl_assign rfl rfl (wl_nil (qs_seq ?_))
 refine wc_condD rfl (fun h13 => ?_) (fun h13 => ?_)
 ·have hd : o.d = 5 := h13
  refine wc_seq (wc_region (wl_move rfl rfl ?_))
  refine wl_fieldAddr rfl fo_33_3 rfl ?_
  refine wl_load rfl ag_3 (by first | assumption | exact hS1.cell 0 rfl rfl) rfl ?_
  have hC14 := hS1.split [1] [false, true, false] rfl; dsimp only [selF, pickA, nthA, List.cons_append, List.nil_append] at hC14
  refine wl_call cal_34 rfl (shevicts_sp hC14 hI o.n (by omega)) rfl ?_
  rintro e w14 ⟨_, rfl, dd, S2, rfl, hI2, hG2, hS14⟩; refine ⟨_, rfl, ?_⟩
  replace hS14 := hS14.join rfl; dsimp only [List.dropLast, List.cons_append, List.nil_append] at hS14; clear hC14
  clear hS1
  refine wl_assign rfl rfl (wl_assign rfl rfl (wl_nil (qs_seq ?_)))
  refine wc_sub (L' := [(5, _), (4, _)]) (.cons rfl (.cons rfl .nil)) ?_
  refine wc_ret (qs_block_ret (qs_then_ret ?_))
  refine fin2 (.inr rfl) rfl rfl rfl ?_
  exact ⟨_, rfl, _, _, S2, rfl, ⟨(hI2).mono (by omega), hG2.f, .inr (.inr (.inr (.inr (.inr (.inr ⟨by omega, hG2.vw⟩)))))⟩, hS14.pick [0, 2] rfl⟩
 have hF5 : ¬ o.d = 5 := h13
 refine wc_seq (wc_region ?_)
 refine wl_eql rfl rfl rfl ?_
 refine wl_assign rfl rfl (wl_nil (qs_seq ?_))
 refine wc_condD rfl (fun h15 => ?_) (fun h15 => ?_)
 ·have hd : o.d = 6 := h15
  refine wc_region (wl_move rfl rfl ?_)
  refine wl_fieldAddr rfl fo_33_1 rfl ?_
  refine wl_load rfl ag_3 (by first | assumption | exact hS1.cell 0 rfl rfl) rfl ?_
  refine wl_fieldAddr rfl fo_33_3 rfl ?_
  refine wl_load rfl ag_3 (by first | assumption | exact hS1.cell 0 rfl rfl) rfl ?_
  have hC16 := hS1.split [1] [false, true, false] rfl; dsimp only [selF, pickA, nthA, List.cons_append, List.nil_append] at hC16
  refine wl_call cal_35 rfl (shtouch_sp hC16 hI (by omega) o.id o.n) rfl ?_
  rintro e w16 ⟨_, rfl, rfl, hS16⟩; refine ⟨_, rfl, ?_⟩
  replace hS16 := hS16.join rfl; dsimp only [List.dropLast, List.cons_append, List.nil_append] at hS16; clear hC16
  clear hS1
  refine wl_nil (qs_block_normal (qs_seq ?_))
  refine wc_sub (L' := [(5, _), (4, _)]) (.cons rfl (.cons rfl .nil)) ?_
  refine wc_seq (wc_region (wl_assign rfl rfl (wl_assign rfl rfl (wl_nil (qs_seq (wc_ret ?_))))))
  refine fin2 (.inr rfl) rfl rfl rfl ?_
  exact ⟨_, rfl, _, _, S, rfl, ⟨(hI).mono (by omega), (ShF.refl S), .inr (.inr (.inr (.inr (.inr (.inr ⟨by omega, rfl⟩)))))⟩, hS16.pick [0, 2] rfl⟩
 have hF6 : ¬ o.d = 6 := h15
 refine wc_seq (wc_region ?_)
 refine wl_eql rfl rfl rfl ?_
 refine wl_assign rfl rfl (wl_nil (qs_seq ?_))
 refine wc_sub (L' := [(62, _), (7, _), (5, _), (4, _), (3, _), (0, _)]) (.cons rfl (.cons rfl (.cons rfl (.cons rfl (.cons rfl (.cons rfl .nil)))))) ?_
 refine wc_condD rfl (fun h17 => ?_) (fun h17 => ?_)
 ·have hd : o.d = 7 := h17
  refine wc_region (wl_move rfl rfl ?_)
  refine wl_fieldAddr rfl fo_33_3 rfl ?_
  refine wl_load rfl ag_3 (by first | assumption | exact hS1.cell 0 rfl rfl) rfl ?_
  have hC18 := hS1.split [1] [false, true, false] rfl; dsimp only [selF, pickA, nthA, List.cons_append, List.nil_append] at hC18
  refine wl_call cal_36 rfl (shfail_sp hC18 o.n) rfl ?_
  rintro e w18 ⟨_, rfl, rfl, hS18⟩; refine ⟨_, rfl, ?_⟩
  replace hS18 := hS18.join rfl; dsimp only [List.dropLast, List.cons_append, List.nil_append] at hS18; clear hC18
  clear hS1
  refine wl_nil (qs_block_normal (qs_seq (wc_seq (wc_region (wl_assign rfl rfl (wl_assign rfl rfl (wl_nil (qs_seq (wc_ret ?_)))))))))
  refine fin2 (.inr rfl) rfl rfl rfl ?_
  exact ⟨_, rfl, _, _, S, rfl, ⟨(hI).mono (by omega), (ShF.refl S), .inr (.inr (.inr (.inr (.inr (.inr ⟨by omega, rfl⟩)))))⟩, hS18.pick [0, 2] rfl⟩
 have hF7 : ¬ o.d = 7 := h17
 refine wc_seq (wc_region ?_)
 refine wl_eql rfl rfl rfl ?_
 refine wl_assign rfl rfl (wl_nil (qs_seq ?_))
 refine wc_condD rfl (fun h19 => ?_) (fun h19 => ?_)
 ·have hd : o.d = 8 := h19
  refine wc_seq ?_
  have hS20 := hS1.drew
  refine wc_draw [0, 1, 2, 3, 4, 5, 6, 7, 8] [5, 6] mix (by kernel_rfl) ?_
  refine vc_p rfl rfl rfl (fun _ => (ev_move rfl)) ?_
  refine vc_p rfl rfl rfl (fun _ => (ev_fieldAddr rfl fo_33_1)) ?_
  refine vc_q rfl rfl rfl (ev_load rfl ag_3 (by first | assumption | exact hS20.cell 0 rfl rfl)) ?_
  refine vc_p rfl rfl rfl (fun _ => (ev_fieldAddr rfl fo_33_4)) ?_
  refine vc_q rfl rfl rfl (ev_load rfl ag_9 (by first | assumption | exact hS20.cell 0 rfl rfl)) ?_
  refine vc_s rfl rfl rfl rfl rfl rfl ?_
  have hC21 := hS20.split [] [false, false, false] rfl; dsimp only [selF, pickA, nthA, List.cons_append, List.nil_append] at hC21
  refine wl_call cal_12 rfl (page_sp hC21 o.s) rfl ?_
  rintro e w21 ⟨_, rfl, rfl, hS21⟩; refine ⟨_, rfl, ?_⟩
  replace hS21 := hS21.join rfl; dsimp only [List.dropLast, List.cons_append, List.nil_append] at hS21; clear hC21
  clear hS20
  refine vc_e (.skip (by kernel_rfl) (.cons (.inl ⟨rfl, (ev_load rfl ag_3 (by first | assumption | exact hS21.cell 0 rfl rfl))⟩) .nil)) ?_
  refine vc_s rfl rfl rfl rfl rfl rfl ?_
  have hC22 := hS21.split [1] [false, true, false] rfl; dsimp only [selF, pickA, nthA, List.cons_append, List.nil_append] at hC22
  refine wl_call cal_37 rfl (shadopt_sp hC22 hI (by omega) (b64_len o.s)) rfl ?_
  rintro e w22 ⟨_, rfl, (⟨e0, rfl, he, hS22⟩ | ⟨rfl, S2, hn, hS22⟩)⟩
  ·refine ⟨_, rfl, ?_⟩
   replace hS22 := hS22.join rfl; dsimp only [List.dropLast, List.cons_append, List.nil_append] at hS22; clear hC22
   clear hS21
   refine vc_e (.skip (by kernel_rfl) (.skip (by kernel_rfl) .nil)) ?_
   refine vc_p rfl rfl rfl (fun _ => (ev_assign rfl)) ?_
   refine vc_p rfl rfl rfl (fun _ => (ev_assign rfl)) ?_
   refine VC.nil (qs_seq ?_)
   refine wc_sub (L' := [(5, _), (4, _)]) (.cons rfl (.cons rfl .nil)) ?_
   refine wc_ret (qs_block_ret (qs_then_ret ?_))
   refine fin2 (.inr rfl) rfl rfl rfl ?_
   exact ⟨_, rfl, _, _, S, rfl, ⟨(hI).mono (by omega), (ShF.refl S), .inr (.inr (.inr (.inr (.inr (.inl ⟨hd, rfl, .inl ⟨he, rfl⟩⟩)))))⟩, hS22.pick [0, 2] rfl⟩
  refine ⟨_, rfl, ?_⟩
  replace hS22 := hS22.join rfl; dsimp only [List.dropLast, List.cons_append, List.nil_append] at hS22; clear hC22
  clear hS21
  refine vc_e (.skip (by kernel_rfl) (.skip (by kernel_rfl) .nil)) ?_
  refine vc_p rfl rfl rfl (fun _ => (ev_assign rfl)) ?_
  refine vc_p rfl rfl rfl (fun _ => (ev_assign rfl)) ?_
  refine VC.nil (qs_seq ?_)
  refine wc_sub (L' := [(5, _), (4, _)]) (.cons rfl (.cons rfl .nil)) ?_
  refine wc_ret (qs_block_ret (qs_then_ret ?_))
  refine fin2 (.inr rfl) rfl rfl rfl ?_
  exact ⟨_, rfl, _, _, S2, rfl, ⟨(hn.inv).mono (by omega), hn.f, .inr (.inr (.inr (.inr (.inr (.inl ⟨hd, rfl, .inr ⟨rfl, vw_none hn.was, hn.pos, hn.is⟩⟩)))))⟩, hS22.pick [0, 2] rfl⟩
 have hF8 : ¬ o.d = 8 := h19
 refine wc_seq (wc_region ?_)
 refine wl_eql rfl rfl rfl ?_
 refine wl_assign rfl rfl (wl_nil (qs_seq ?_))
 refine wc_condD rfl (fun h23 => ?_) (fun h23 => ?_)
 ·have hd : o.d = 9 := h23
  refine wc_seq (wc_region (wl_move rfl rfl ?_))
  refine wl_fieldAddr rfl fo_33_1 rfl ?_
  refine wl_load rfl ag_3 (by first | assumption | exact hS1.cell 0 rfl rfl) rfl ?_
  refine wl_fieldAddr rfl fo_33_2 rfl ?_
  refine wl_load rfl ag_3 (by first | assumption | exact hS1.cell 0 rfl rfl) rfl ?_
  have hC24 := hS1.split [1] [false, true, false] rfl; dsimp only [selF, pickA, nthA, List.cons_append, List.nil_append] at hC24
  refine wl_call cal_28 rfl (shbyte_sp hC24 hI (by omega) o.id o.at_) rfl ?_
  rintro e w24 ⟨_, rfl, rfl, hS24⟩; refine ⟨_, rfl, ?_⟩
  replace hS24 := hS24.join rfl; dsimp only [List.dropLast, List.cons_append, List.nil_append] at hS24; clear hC24
  clear hS1
  refine wl_convU8 Tryz.underlying5 Tryz.underlying3 rfl rfl ?_
  refine wl_assign rfl rfl (wl_assign rfl rfl (wl_nil (qs_seq ?_)))
  refine wc_sub (L' := [(5, _), (4, _)]) (.cons rfl (.cons rfl .nil)) ?_
  refine wc_ret (qs_block_ret (qs_then_ret ?_))
  refine fin2 (.inr rfl) rfl rfl rfl ?_
  exact ⟨_, rfl, _, _, S, rfl, ⟨(hI).mono (by omega), (ShF.refl S), .inr (.inr (.inr (.inr (.inr (.inr ⟨by omega, rfl⟩)))))⟩, hS24.pick [0, 2] rfl⟩
 have hF9 : ¬ o.d = 9 := h23
 refine wc_seq (wc_region ?_)
 refine wl_eql rfl rfl rfl ?_
 refine wl_assign rfl rfl (wl_nil (qs_seq ?_))
 refine wc_sub (L' := [(86, _), (5, _), (4, _), (3, _), (0, _)]) (.cons rfl (.cons rfl (.cons rfl (.cons rfl (.cons rfl .nil))))) ?_
 refine wc_condD rfl (fun h25 => ?_) (fun h25 => ?_)
 ·have hd : o.d = 10 := h25
  refine wc_seq (wc_region (wl_move rfl rfl ?_))
  refine wl_fieldAddr rfl fo_33_4 rfl ?_
  refine wl_load rfl ag_9 (by first | assumption | exact hS1.cell 0 rfl rfl) rfl ?_
  have hC26 := hS1.split [] [false, false, false] rfl; dsimp only [selF, pickA, nthA, List.cons_append, List.nil_append] at hC26
  refine wl_call cal_12 rfl (page_sp hC26 o.s) rfl ?_
  rintro e w26 ⟨_, rfl, rfl, hS26⟩; refine ⟨_, rfl, ?_⟩
  replace hS26 := hS26.join rfl; dsimp only [List.dropLast, List.cons_append, List.nil_append] at hS26; clear hC26
  clear hS1
  have hC27 := hS26.split [1] [false, true, false] rfl; dsimp only [selF, pickA, nthA, List.cons_append, List.nil_append] at hC27
  refine wl_call cal_38 rfl (shfresh_sp hC27 hI (by omega) (b64_len o.s)) rfl ?_
  rintro e w27 ⟨_, rfl, (⟨rfl, _, _, hS27⟩ | ⟨rfl, S2, hn, hS27⟩)⟩
  ·refine ⟨_, rfl, ?_⟩
   replace hS27 := hS27.join rfl; dsimp only [List.dropLast, List.cons_append, List.nil_append] at hS27; clear hC27
   clear hS26
   refine wl_extract rfl rfl rfl (wl_extract rfl rfl rfl (wl_assign rfl rfl (wl_assign rfl rfl (wl_nil (qs_seq ?_)))))
   refine wc_sub (L' := [(5, _), (4, _)]) (.cons rfl (.cons rfl .nil)) ?_
   refine wc_ret (qs_block_ret (qs_then_ret ?_))
   refine fin2 (.inr rfl) rfl rfl rfl ?_
   exact ⟨_, rfl, _, _, S, rfl, ⟨(hI).mono (by omega), (ShF.refl S), .inr (.inl ⟨.inr hd, .inl ⟨rfl, rfl, rfl⟩⟩)⟩, hS27.pick [0, 2] rfl⟩
  refine ⟨_, rfl, ?_⟩
  replace hS27 := hS27.join rfl; dsimp only [List.dropLast, List.cons_append, List.nil_append] at hS27; clear hC27
  clear hS26
  refine wl_extract rfl rfl rfl (wl_extract rfl rfl rfl (wl_assign rfl rfl (wl_assign rfl rfl (wl_nil (qs_seq ?_)))))
  refine wc_sub (L' := [(5, _), (4, _)]) (.cons rfl (.cons rfl .nil)) ?_
  refine wc_ret (qs_block_ret (qs_then_ret ?_))
  refine fin2 (.inr rfl) rfl rfl rfl ?_
  exact ⟨_, rfl, _, _, S2, rfl, ⟨(hn.inv).mono (by omega), hn.f, .inr (.inl ⟨.inr hd, .inr ⟨hn.pos, rfl, vw_none hn.was, hn.is⟩⟩)⟩, hS27.pick [0, 2] rfl⟩
 have hF10 : ¬ o.d = 10 := h25
 refine wc_skip (qs_block_normal (qs_seq (wc_seq (wc_region (wl_assign rfl rfl (wl_assign rfl rfl (wl_nil (qs_seq (wc_ret ?_)))))))))
 refine fin2 (.inr rfl) rfl rfl rfl ?_
 exact ⟨_, rfl, _, _, S, rfl, ⟨(hI).mono (by omega), (ShF.refl S), .inr (.inr (.inr (.inr (.inr (.inr ⟨by omega, rfl⟩)))))⟩, hS1.pick [1, 2] rfl⟩
end Go.Proofs.YtnicmcdeoimhlaaGreat
/- laws of sheets: small -/
namespace Go.Proofs.YtnicmcdeoimhlaaGreat
open Go.RowKit M
set_option linter.unusedVariables false
/-- what small finds -/
structure Sm2 (pa pb : Bs) (S2 : SS) : Prop where
  inv : ShI no0 2 S2
  one : ∃ x, S2.all 1 = some x ∧ x.place = 3 ∧ x.pg = pa
  two : ∃ x, S2.all 2 = some x ∧ x.place = 1 ∧ x.pg = pb
  frn : S2.fr.length = 1
  sln : S2.sl.length = 1
  bud : S2.budget = 0
  nxt : S2.next = 3
theorem sm_slot {N : Nat} {S : SS} {id : Int} {pg : Bs} (h : NewS N (newS 1 1 0) S id pg) (hN : N = 0) : usedN S.sl ≠ S.sl.length := by
  subst hN
  have hl : S.sl.length = 1 := by have := h.inv.slo; have h2 := h.f.slo; have h3 : (newS 1 1 0).slots = 1 := rfl; omega
  intro hu
  have h1 : ([] : Bs) ∉ S.sl := fun q => by have := usedN_lt.2 q; omega
  obtain ⟨p, hp⟩ : ∃ p, S.sl[0]? = some p := ⟨_, List.getElem?_eq_getElem (by omega)⟩
  obtain ⟨j, x, _, hx, hp3, _⟩ := h.inv.slu hp (fun q => h1 (by rw [← q]; exact List.mem_of_getElem? hp))
  obtain ⟨y, hy, hy1⟩ := h.at_
  have hv := vw_some hx
  rw [h.is] at hv
  by_cases q : j = id
  · subst q; rw [hx] at hy; cases hy; omega
  · rw [up_ne q] at hv; cases hv
theorem sm_two {S1 S2 : SS} {pa pb : Bs} (h1 : NewS 0 (newS 1 1 0) S1 1 pa) (h2 : NewS 1 S1 S2 S1.next pb) : S1.next = 2 ∧ Sm2 pa pb S2 := by
  have hn : S1.next = 2 := by have := h1.nxt; have h3 : (newS 1 1 0).next = 1 := rfl; omega
  rw [hn] at h2
  have hf1 : S1.fr.length = 1 := h1.f.frn
  have hf2 : S2.fr.length = 1 := h2.f.frn.trans hf1
  have hb : S2.budget = 0 := h2.f.bud.trans h1.f.bud
  have hs : S2.slots = 1 := h2.f.slo.trans h1.f.slo
  have hv1 : vw S2 1 = some (1, pa) := by rw [h2.is, up_ne (by decide), h1.is, up_self]
  have hv2 : vw S2 2 = some (1, pb) := by rw [h2.is, up_self]
  obtain ⟨x, hx, _, hxp⟩ := vw_back hv1
  obtain ⟨y, hy, _, hyp⟩ := vw_back hv2
  obtain ⟨y', hy', hy1⟩ := h2.at_
  rw [hy] at hy'; cases hy'
  exact ⟨hn, h2.inv, ⟨x, hx, one_frame h2.inv hf2 hb hy hy1 hx (by decide), hxp⟩, ⟨y, hy, hy1, hyp⟩, hf2, by have := h2.inv.slo; omega, hb, by have := h2.nxt; omega⟩
theorem sm_three {S2 S3 : SS} {pa pb pc : Bs} (h : Sm2 pa pb S2) (h3 : NewS 2 S2 S3 S2.next pc) : False := by
  have hf : S3.fr.length = 1 := h3.f.frn.trans h.frn
  have hb : S3.budget = 0 := h3.f.bud.trans h.bud
  rw [h.nxt] at h3
  obtain ⟨z, hz, hz1⟩ := h3.at_
  obtain ⟨x0, hx0, _⟩ := h.one
  obtain ⟨y0, hy0, _⟩ := h.two
  have hv1 : vw S3 1 = some (x0.refs, x0.pg) := by rw [h3.is, up_ne (by decide)]; exact vw_some hx0
  have hv2 : vw S3 2 = some (y0.refs, y0.pg) := by rw [h3.is, up_ne (by decide)]; exact vw_some hy0
  obtain ⟨x, hx, _⟩ := vw_back hv1
  obtain ⟨y, hy, _⟩ := vw_back hv2
  have hx3 := one_frame h3.inv hf hb hz hz1 hx (by decide)
  have hy3 := one_frame h3.inv hf hb hz hz1 hy (by decide)
  obtain ⟨a1, a2⟩ := h3.inv.slt (fun q => q) hx hx3
  obtain ⟨b1, b2⟩ := h3.inv.slt (fun q => q) hy hy3
  have hl : S3.sl.length = 1 := by have := h3.inv.slo; have := h3.f.slo; have := h.inv.slo; have := h.sln; omega
  have a3 := (List.getElem?_eq_some_iff.1 a2).1
  have b3 := (List.getElem?_eq_some_iff.1 b2).1
  have := h3.inv.sli (fun q => q) (fun q => q) hx hy hx3 hy3 (by omega)
  cases this
theorem sm_bring {S2 S4 : SS} {pa pb : Bs} {k : Nat} {x : ShE} (h : Sm2 pa pb S2) (hx : S2.all 1 = some x) (hB : BrS 2 S2 S4 1 k x) : k = 0 ∧ (∃ y, S4.all 2 = some y ∧ y.place = 3 ∧ y.pg = pb) ∧ (∃ y, S4.all 1 = some y ∧ y.pg = pa) := by
  have hf : S4.fr.length = 1 := hB.go.frn.trans h.frn
  have hb : S4.budget = 0 := hB.go.bud.trans h.bud
  obtain ⟨x0, hx0, _, hpa⟩ := h.one
  rw [hx] at hx0; cases hx0
  obtain ⟨y0, hy0, _, hpb⟩ := h.two
  obtain ⟨y, hy, _, hyp⟩ := hB.go.get hy0
  have h1 := frAt_lt (hB.inv.frc (fun q => q) hB.is rfl)
  refine ⟨?_, ⟨y, hy, one_frame hB.inv hf hb hB.is rfl hy (by decide), by rw [hyp, hpb]⟩, ⟨_, hB.is, hpa⟩⟩
  have h2 := h1.2
  simp only [Int.toNat_natCast] at h2
  omega
theorem zer_b64 : b64 [] = zer := by decide
set_option maxRecDepth 100000 in
set_option maxHeartbeats 1600000 in
theorem small_sp {w : World} {F : Th} (hS : Sat w [F]) :
    Calls Tryz.prog 8 #[] w (Ret fun v w' => v = .bool true ∧ Sat w' [F]) := by
 refine calls_enter Tryz.func8 rfl Tryz.ntmps8 rfl ?_
 refine wc_seq (wc_region (wl_assign rfl rfl (wl_nil (qs_seq (wc_seq (wc_region ?_))))))
 have hC1 := hS.split [] [false] rfl; dsimp only [selF, pickA, nthA, List.cons_append, List.nil_append] at hC1
 refine wl_call cal_9 rfl (shnew_sp hC1 1 1 0) rfl ?_
 rintro e w1 ⟨_, rfl, p, rfl, hS1⟩; refine ⟨_, rfl, ?_⟩
 replace hS1 := hS1.join rfl; dsimp only [List.dropLast, List.cons_append, List.nil_append] at hS1; clear hC1
 refine wl_assign rfl rfl (wl_nil (qs_seq (wc_seq (wc_seq (wc_region (wl_move rfl rfl ?_))))))
 refine wl_eqlNil Tryz.underlying24 rfl rfl rfl ?_
 refine wl_nil (qs_seq ?_)
 refine wc_condF rfl ?_
 refine wc_skip (qs_seq (wc_seq (wc_region (wl_move rfl rfl ?_))))
 have hC2 := hS1.split [] [false, false] rfl; dsimp only [selF, pickA, nthA, List.cons_append, List.nil_append] at hC2
 refine wl_call cal_12 rfl (page_sp hC2 [97]) rfl ?_
 rintro e w2 ⟨_, rfl, rfl, hS2⟩; refine ⟨_, rfl, ?_⟩
 replace hS2 := hS2.join rfl; dsimp only [List.dropLast, List.cons_append, List.nil_append] at hS2; clear hC2
 clear hS1
 have hC3 := hS2.split [0] [true, false] rfl; dsimp only [selF, pickA, nthA, List.cons_append, List.nil_append] at hC3
 refine wl_call cal_27 rfl (shmake_or hC3 (newS_inv 1 1 0) (by omega) (b64_len [97])) rfl ?_
 rintro e w3 ⟨_, rfl, (⟨hz, rfl, hS3⟩ | ⟨_, rfl, hall, _, hS3⟩ | ⟨S1, _, rfl, hn1, hS3⟩)⟩
 ·exact absurd hz (by decide)
 ·exact absurd rfl (hall none (by simp [newS]; decide))
 refine ⟨_, rfl, ?_⟩
 replace hS3 := hS3.join rfl; dsimp only [List.dropLast, List.cons_append, List.nil_append] at hS3; clear hC3
 clear hS2
 have e1 : (newS 1 1 0).next = 1 := rfl
 rw [e1] at hn1 ⊢
 refine wl_move rfl rfl (wl_extract rfl rfl rfl (wl_extract rfl rfl rfl (wl_assign rfl rfl (wl_assign rfl rfl (wl_nil (qs_seq ?_))))))
 refine wc_sub (L' := [(3, _), (2, _), (1, _), (0, _)]) (.cons rfl (.cons rfl (.cons rfl (.cons rfl .nil)))) ?_
 refine wc_seq (wc_region (wl_move rfl rfl ?_))
 have hC4 := hS3.split [] [false, false] rfl; dsimp only [selF, pickA, nthA, List.cons_append, List.nil_append] at hC4
 refine wl_call cal_12 rfl (page_sp hC4 [98]) rfl ?_
 rintro e w4 ⟨_, rfl, rfl, hS4⟩; refine ⟨_, rfl, ?_⟩
 replace hS4 := hS4.join rfl; dsimp only [List.dropLast, List.cons_append, List.nil_append] at hS4; clear hC4
 clear hS3
 have hC5 := hS4.split [0] [true, false] rfl; dsimp only [selF, pickA, nthA, List.cons_append, List.nil_append] at hC5
 refine wl_call cal_27 rfl (shmake_or hC5 hn1.inv (by omega) (b64_len [98])) rfl ?_
 rintro e w5 ⟨_, rfl, (⟨hz, rfl, hS5⟩ | ⟨_, rfl, hall, hfull, hS5⟩ | ⟨S2, _, rfl, hn2, hS5⟩)⟩
 ·exact absurd hz (by decide)
 ·exact absurd hfull (sm_slot hn1 rfl)
 refine ⟨_, rfl, ?_⟩
 replace hS5 := hS5.join rfl; dsimp only [List.dropLast, List.cons_append, List.nil_append] at hS5; clear hC5
 clear hS4
 obtain ⟨e2, h2⟩ := sm_two hn1 hn2
 rw [e2]
 obtain ⟨x1, hx1, hp1, hg1⟩ := h2.one
 obtain ⟨x2, hx2, hp2, hg2⟩ := h2.two
 refine wl_move rfl rfl (wl_extract rfl rfl rfl (wl_extract rfl rfl rfl (wl_assign rfl rfl (wl_assign rfl rfl (wl_nil (qs_seq ?_))))))
 refine wc_sub (L' := [(5, _), (4, _), (3, _), (2, _), (1, _), (0, _)]) (.cons rfl (.cons rfl (.cons rfl (.cons rfl (.cons rfl (.cons rfl .nil)))))) ?_
 refine wc_seq (wc_region (wl_move rfl rfl (wl_move rfl rfl ?_)))
 have hC6 := hS5.split [0] [true, false] rfl; dsimp only [selF, pickA, nthA, List.cons_append, List.nil_append] at hC6
 refine wl_call cal_19 rfl (shplace_sp hC6 1) rfl ?_
 rintro e w6 ⟨_, rfl, rfl, hS6⟩; refine ⟨_, rfl, ?_⟩
 replace hS6 := hS6.join rfl; dsimp only [List.dropLast, List.cons_append, List.nil_append] at hS6; clear hC6
 clear hS5
 rw [hx1]
 dsimp only
 rw [hp1]
 refine wl_eql rfl rfl rfl ?_
 refine wl_move rfl rfl ?_
 refine wl_splitD 33 rfl (fun h7 => ?_) (fun h7 => ?_)
 ·refine wl_guard rfl rfl (decide_eq_true h7) ?_
  refine wl_move rfl rfl ?_
  refine wl_guard rfl rfl (decide_eq_true h7) ?_
  refine wl_move rfl rfl ?_
  refine wl_guard rfl rfl (decide_eq_true h7) ?_
  have hC8 := hS6.split [0] [true, false] rfl; dsimp only [selF, pickA, nthA, List.cons_append, List.nil_append] at hC8
  refine wl_call cal_19 rfl (shplace_sp hC8 2) rfl ?_
  rintro e w8 ⟨_, rfl, rfl, hS8⟩; refine ⟨_, rfl, ?_⟩
  replace hS8 := hS8.join rfl; dsimp only [List.dropLast, List.cons_append, List.nil_append] at hS8; clear hC8
  clear hS6
  rw [hx2]
  dsimp only
  rw [hp2]
  refine wl_guard rfl rfl (decide_eq_true h7) ?_
  refine wl_eql rfl rfl rfl ?_
  refine wl_pickT rfl (decide_eq_true h7) rfl rfl ?_
  refine wl_assign rfl rfl (wl_nil (qs_seq ?_))
  refine wc_sub (L' := [(6, _), (5, _), (4, _), (3, _), (2, _), (1, _), (0, _)]) (.cons rfl (.cons rfl (.cons rfl (.cons rfl (.cons rfl (.cons rfl (.cons rfl .nil))))))) ?_
  refine wc_seq (wc_region (wl_move rfl rfl ?_))
  have hC9 := hS8.split [] [false, false] rfl; dsimp only [selF, pickA, nthA, List.cons_append, List.nil_append] at hC9
  refine wl_call cal_12 rfl (page_sp hC9 [99]) rfl ?_
  rintro e w9 ⟨_, rfl, rfl, hS9⟩; refine ⟨_, rfl, ?_⟩
  replace hS9 := hS9.join rfl; dsimp only [List.dropLast, List.cons_append, List.nil_append] at hS9; clear hC9
  clear hS8
  have hC10 := hS9.split [0] [true, false] rfl; dsimp only [selF, pickA, nthA, List.cons_append, List.nil_append] at hC10
  refine wl_call cal_27 rfl (shmake_or hC10 h2.inv (by omega) (b64_len [99])) rfl ?_
  rintro e w10 ⟨_, rfl, (⟨hz, rfl, hS10⟩ | ⟨_, rfl, hall, hfull, hS10⟩ | ⟨S3, _, rfl, hn3, hS10⟩)⟩
  ·exact absurd hz (by decide)
  ·refine ⟨_, rfl, ?_⟩
   replace hS10 := hS10.join rfl; dsimp only [List.dropLast, List.cons_append, List.nil_append] at hS10; clear hC10
   clear hS9
   refine wl_move rfl rfl (wl_extract rfl rfl rfl (wl_extract rfl rfl rfl (wl_assign rfl rfl (wl_assign rfl rfl (wl_nil (qs_seq ?_))))))
   refine wc_sub (L' := [(8, _), (6, _), (5, _), (4, _), (3, _), (2, _), (1, _), (0, _)]) (.cons rfl (.cons rfl (.cons rfl (.cons rfl (.cons rfl (.cons rfl (.cons rfl (.cons rfl .nil)))))))) ?_
   refine wc_seq (wc_region (wl_move rfl rfl (wl_move rfl rfl ?_)))
   have hC11 := hS10.split [0] [true, false] rfl; dsimp only [selF, pickA, nthA, List.cons_append, List.nil_append] at hC11
   refine wl_call cal_24 rfl (shbring_or hC11 h2.inv (by omega) 1) rfl ?_
   rintro e w11 ⟨_, rfl, (⟨hq, _, hS11⟩ | ⟨x, hq, hq1, _, hS11⟩ | ⟨x, k, S4, hq, _, rfl, hB, hS11⟩ | ⟨x, hq, hq1, _, _, _, hS11⟩)⟩
   ·rw [hx1] at hq; cases hq
   ·rw [hx1] at hq; cases hq; omega
   ·refine ⟨_, rfl, ?_⟩
    replace hS11 := hS11.join rfl; dsimp only [List.dropLast, List.cons_append, List.nil_append] at hS11; clear hC11
    clear hS10
    obtain ⟨ek, ⟨y2, hy2, hq2, hgy2⟩, ⟨y1, hy1, hgy1⟩⟩ := sm_bring h2 hq hB
    subst ek
    refine wl_move rfl rfl (wl_extract rfl rfl rfl (wl_extract rfl rfl rfl (wl_assign rfl rfl (wl_assign rfl rfl (wl_nil (qs_seq ?_))))))
    refine wc_sub (L' := [(10, _), (9, _), (8, _), (6, _), (5, _), (4, _), (3, _), (2, _), (1, _), (0, _)]) (.cons rfl (.cons rfl (.cons rfl (.cons rfl (.cons rfl (.cons rfl (.cons rfl (.cons rfl (.cons rfl (.cons rfl .nil)))))))))) ?_
    refine wc_seq (wc_region (wl_move rfl rfl ?_))
    have hC12 := hS11.split [] [false, false] rfl; dsimp only [selF, pickA, nthA, List.cons_append, List.nil_append] at hC12
    refine wl_call cal_12 rfl (page_sp hC12 []) rfl ?_
    rintro e w12 ⟨_, rfl, rfl, hS12⟩; refine ⟨_, rfl, ?_⟩
    replace hS12 := hS12.join rfl; dsimp only [List.dropLast, List.cons_append, List.nil_append] at hS12; clear hC12
    clear hS11
    have hC13 := hS12.split [0] [true, false] rfl; dsimp only [selF, pickA, nthA, List.cons_append, List.nil_append] at hC13
    refine wl_call cal_27 rfl (shmake_or hC13 hB.inv (by omega) (b64_len [])) rfl ?_
    rintro e w13 ⟨_, rfl, (⟨hz, rfl, hS13⟩ | ⟨hz, _, _, _, hS13⟩ | ⟨S5, hz, _, _, hS13⟩)⟩
    ·refine ⟨_, rfl, ?_⟩
     replace hS13 := hS13.join rfl; dsimp only [List.dropLast, List.cons_append, List.nil_append] at hS13; clear hC13
     clear hS12
     refine wl_move rfl rfl (wl_extract rfl rfl rfl (wl_extract rfl rfl rfl (wl_assign rfl rfl (wl_assign rfl rfl (wl_nil (qs_seq ?_))))))
     refine wc_sub (L' := [(12, _), (11, _), (10, _), (9, _), (8, _), (6, _), (5, _), (4, _), (3, _), (2, _), (1, _), (0, _)]) (.cons rfl (.cons rfl (.cons rfl (.cons rfl (.cons rfl (.cons rfl (.cons rfl (.cons rfl (.cons rfl (.cons rfl (.cons rfl (.cons rfl .nil)))))))))))) ?_
     refine wc_seq (wc_region (wl_move rfl rfl ?_))
     refine wl_eql rfl rfl rfl ?_
     refine wl_move rfl rfl ?_
     refine wl_splitD 59 rfl (fun h14 => ?_) (fun h14 => ?_)
     ·refine wl_guard rfl rfl (decide_eq_true h14) ?_
      refine wl_move rfl rfl ?_
      refine wl_guard rfl rfl (decide_eq_true h14) ?_
      refine wl_eql rfl rfl rfl ?_
      refine wl_pickT rfl (decide_eq_true h14) rfl rfl ?_
      refine wl_move rfl rfl ?_
      refine wl_splitD 63 rfl (fun h15 => ?_) (fun h15 => ?_)
      ·refine wl_guard rfl rfl (decide_eq_true h15) ?_
       refine wl_move rfl rfl ?_
       refine wl_guard rfl rfl (decide_eq_true h15) ?_
       refine wl_eql rfl rfl rfl ?_
       refine wl_pickT rfl (decide_eq_true h15) rfl rfl ?_
       refine wl_move rfl rfl ?_
       refine wl_splitD 67 rfl (fun h16 => ?_) (fun h16 => ?_)
       ·refine wl_guard rfl rfl (decide_eq_true h16) ?_
        refine wl_move rfl rfl ?_
        refine wl_guard rfl rfl (decide_eq_true h16) ?_
        refine wl_eql rfl rfl rfl ?_
        refine wl_pickT rfl (decide_eq_true h16) rfl rfl ?_
        refine wl_move rfl rfl ?_
        refine wl_splitD 71 rfl (fun h17 => ?_) (fun h17 => ?_)
        ·refine wl_guard rfl rfl (decide_eq_true h17) ?_
         refine wl_move rfl rfl ?_
         refine wl_pickT rfl (decide_eq_true h17) rfl rfl ?_
         refine wl_move rfl rfl ?_
         refine wl_splitD 74 rfl (fun h18 => ?_) (fun h18 => ?_)
         ·refine wl_guard rfl rfl (decide_eq_true h18) ?_
          refine wl_move rfl rfl ?_
          refine wl_guard rfl rfl (decide_eq_true h18) ?_
          refine wl_eql rfl rfl rfl ?_
          refine wl_pickT rfl (decide_eq_true h18) rfl rfl ?_
          refine wl_assign rfl rfl (wl_nil (qs_seq ?_))
          refine wc_sub (L' := [(13, _), (12, _), (11, _), (10, _), (9, _), (4, _), (2, _), (1, _), (0, _)]) (.cons rfl (.cons rfl (.cons rfl (.cons rfl (.cons rfl (.cons rfl (.cons rfl (.cons rfl (.cons rfl .nil))))))))) ?_
          refine wc_seq (wc_region (wl_move rfl rfl (wl_move rfl rfl ?_)))
          refine wl_splitD 79 rfl (fun h19 => ?_) (fun h19 => ?_)
          ·refine wl_guard rfl rfl (decide_eq_true h19) ?_
           refine wl_move rfl rfl ?_
           refine wl_guard rfl rfl (decide_eq_true h19) ?_
           refine wl_eql rfl rfl rfl ?_
           refine wl_pickT rfl (decide_eq_true h19) rfl rfl ?_
           refine wl_move rfl rfl ?_
           refine wl_splitD 83 rfl (fun h20 => ?_) (fun h20 => ?_)
           ·refine wl_guard rfl rfl (decide_eq_true h20) ?_
            refine wl_move rfl rfl ?_
            refine wl_guard rfl rfl (decide_eq_true h20) ?_
            refine wl_eql rfl rfl rfl ?_
            refine wl_pickT rfl (decide_eq_true h20) rfl rfl ?_
            refine wl_move rfl rfl ?_
            refine wl_splitD 87 rfl (fun h21 => ?_) (fun h21 => ?_)
            ·refine wl_guard rfl rfl (decide_eq_true h21) ?_
             refine wl_move rfl rfl ?_
             refine wl_guard rfl rfl (decide_eq_true h21) ?_
             refine wl_move rfl rfl ?_
             refine wl_guard rfl rfl (decide_eq_true h21) ?_
             have hC22 := hS13.split [0] [true, false] rfl; dsimp only [selF, pickA, nthA, List.cons_append, List.nil_append] at hC22
             refine wl_call cal_19 rfl (shplace_sp hC22 2) rfl ?_
             rintro e w22 ⟨_, rfl, rfl, hS22⟩; refine ⟨_, rfl, ?_⟩
             replace hS22 := hS22.join rfl; dsimp only [List.dropLast, List.cons_append, List.nil_append] at hS22; clear hC22
             clear hS13
             rw [hy2]
             dsimp only
             rw [hq2]
             refine wl_guard rfl rfl (decide_eq_true h21) ?_
             refine wl_eql rfl rfl rfl ?_
             refine wl_pickT rfl (decide_eq_true h21) rfl rfl ?_
             refine wl_move rfl rfl ?_
             refine wl_splitD 93 rfl (fun h23 => ?_) (fun h23 => ?_)
             ·refine wl_guard rfl rfl (decide_eq_true h23) ?_
              refine wl_move rfl rfl ?_
              refine wl_guard rfl rfl (decide_eq_true h23) ?_
              refine wl_eql rfl rfl rfl ?_
              refine wl_pickT rfl (decide_eq_true h23) rfl rfl ?_
              refine wl_move rfl rfl ?_
              refine wl_splitD 97 rfl (fun h24 => ?_) (fun h24 => ?_)
              ·refine wl_guard rfl rfl (decide_eq_true h24) ?_
               refine wl_move rfl rfl ?_
               refine wl_guard rfl rfl (decide_eq_true h24) ?_
               refine wl_eql rfl rfl rfl ?_
               refine wl_pickT rfl (decide_eq_true h24) rfl rfl ?_
               refine wl_move rfl rfl ?_
               refine wl_splitD 101 rfl (fun h25 => ?_) (fun h25 => ?_)
               ·refine wl_guard rfl rfl (decide_eq_true h25) ?_
                refine wl_move rfl rfl ?_
                refine wl_guard rfl rfl (decide_eq_true h25) ?_
                refine wl_move rfl rfl ?_
                refine wl_guard rfl rfl (decide_eq_true h25) ?_
                have hC26 := hS22.split [0] [true, false] rfl; dsimp only [selF, pickA, nthA, List.cons_append, List.nil_append] at hC26
                refine wl_call cal_28 rfl (shbyte_sp hC26 hB.inv (by omega) 1 0) rfl ?_
                rintro e w26 ⟨_, rfl, rfl, hS26⟩; refine ⟨_, rfl, ?_⟩
                replace hS26 := hS26.join rfl; dsimp only [List.dropLast, List.cons_append, List.nil_append] at hS26; clear hC26
                clear hS22
                rw [show shBt S4 1 0 = 97 by unfold shBt shPg; rw [hy1]; dsimp only; rw [hgy1]; decide]
                refine wl_guard rfl rfl (decide_eq_true h25) ?_
                refine wl_eql rfl rfl rfl ?_
                refine wl_pickT rfl (decide_eq_true h25) rfl rfl ?_
                refine wl_move rfl rfl ?_
                refine wl_splitD 107 rfl (fun h27 => ?_) (fun h27 => ?_)
                ·refine wl_guard rfl rfl (decide_eq_true h27) ?_
                 refine wl_move rfl rfl ?_
                 refine wl_guard rfl rfl (decide_eq_true h27) ?_
                 refine wl_move rfl rfl ?_
                 refine wl_guard rfl rfl (decide_eq_true h27) ?_
                 have hC28 := hS26.split [0] [true, false] rfl; dsimp only [selF, pickA, nthA, List.cons_append, List.nil_append] at hC28
                 refine wl_call cal_28 rfl (shbyte_sp hC28 hB.inv (by omega) 2 0) rfl ?_
                 rintro e w28 ⟨_, rfl, rfl, hS28⟩; refine ⟨_, rfl, ?_⟩
                 replace hS28 := hS28.join rfl; dsimp only [List.dropLast, List.cons_append, List.nil_append] at hS28; clear hC28
                 clear hS26
                 rw [show shBt S4 2 0 = 98 by unfold shBt shPg; rw [hy2]; dsimp only; rw [hgy2]; decide]
                 refine wl_guard rfl rfl (decide_eq_true h27) ?_
                 refine wl_eql rfl rfl rfl ?_
                 refine wl_pickT rfl (decide_eq_true h27) rfl rfl ?_
                 refine wl_assign rfl rfl (wl_nil (qs_seq ?_))
                 refine wc_sub (L' := [(0, _)]) (.cons rfl .nil) ?_
                 refine wc_ret ?_
                 refine fin1 (.inr rfl) rfl rfl ?_
                 exact ⟨_, rfl, by first | rfl | (congr 1; decide) | decide, hS28.pick [1] rfl⟩
                exact absurd (by decide) h27
               exact absurd (by decide) h25
              exact absurd (by decide) h24
             exact absurd (by decide) h23
            exact absurd (by decide) h21
           exact absurd (by decide) h20
          exact absurd (by decide) h19
         exact absurd (by decide) h18
        exact absurd (by decide) h17
       exact absurd (by decide) h16
      exact absurd (by decide) h15
     exact absurd (by decide) h14
    ·exact absurd zer_b64 hz
    exact absurd zer_b64 hz
   rw [hx1] at hq; cases hq; omega
  exact (sm_three h2 hn3).elim
 exact absurd (by decide) h7
end Go.Proofs.YtnicmcdeoimhlaaGreat
/- laws of sheets: the model -/
namespace Go.Proofs.YtnicmcdeoimhlaaGreat
open Go.RowKit M
set_option linter.unusedVariables false
structure MoD where
  ids : List Int
  refs : List Int
  pages : List Bs
structure MRel (M : MoD) (V : Int → Option (Int × Bs)) : Prop where
  nod : M.ids.Nodup
  l1 : M.refs.length = M.ids.length
  l2 : M.pages.length = M.ids.length
  rel : ∀ {i : Nat} {j : Int}, M.ids[i]? = some j → ∃ r pg, M.refs[i]? = some r ∧ M.pages[i]? = some pg ∧ V j = some (r, pg)
  dom : ∀ {j : Int}, V j ≠ none → j ∈ M.ids
theorem MRel.nil : MRel ⟨[], [], []⟩ (fun _ => none) := ⟨List.nodup_nil, rfl, rfl, fun h => by simp at h, fun h => absurd rfl h⟩
theorem MRel.add {M : MoD} {V : Int → Option (Int × Bs)} {a : Int} {pg : Bs} (h : MRel M V) (hn : V a = none) : MRel ⟨M.ids ++ [a], M.refs ++ [1], M.pages ++ [pg]⟩ (up V a (some (1, pg))) := by
  have hna : a ∉ M.ids := fun q => by
    obtain ⟨i, hi⟩ := List.mem_iff_getElem?.1 q
    obtain ⟨r, p, _, _, h3⟩ := h.rel hi
    rw [hn] at h3; cases h3
  refine ⟨?_, by simp [h.l1], by simp [h.l2], fun {i j} hi => ?_, fun {j} hj => ?_⟩
  · refine List.nodup_append.2 ⟨h.nod, by simp, ?_⟩
    rintro x hx y hy rfl
    simp at hy; subst hy; exact hna hx
  · dsimp only at hi ⊢
    by_cases q : i < M.ids.length
    · rw [List.getElem?_append_left q] at hi
      obtain ⟨r, p, h1, h2, h3⟩ := h.rel hi
      refine ⟨r, p, by rw [List.getElem?_append_left (by rw [h.l1]; exact q)]; exact h1, by rw [List.getElem?_append_left (by rw [h.l2]; exact q)]; exact h2, ?_⟩
      rw [up_ne (fun e => hna (by rw [← e]; exact List.mem_of_getElem? hi))]; exact h3
    · have hl := (List.getElem?_eq_some_iff.1 hi).1
      simp only [List.length_append, List.length_cons, List.length_nil] at hl
      obtain rfl : i = M.ids.length := by omega
      simp at hi; subst hi
      refine ⟨1, pg, by rw [← h.l1]; simp, by rw [← h.l2]; simp, up_self⟩
  · by_cases q : j = a
    · subst q; simp
    · rw [up_ne q] at hj; exact List.mem_append_left _ (h.dom hj)
theorem MRel.idx {M : MoD} {V : Int → Option (Int × Bs)} {i k : Nat} {j : Int} (h : MRel M V) (h1 : M.ids[i]? = some j) (h2 : M.ids[k]? = some j) : i = k := by
  obtain ⟨a, ha⟩ := List.getElem?_eq_some_iff.1 h1
  obtain ⟨b, hb⟩ := List.getElem?_eq_some_iff.1 h2
  rcases Nat.lt_trichotomy i k with q | q | q
  · exact absurd (ha.trans hb.symm) ((List.pairwise_iff_getElem.1 h.nod) i k a b q)
  · exact q
  · exact absurd (hb.trans ha.symm) ((List.pairwise_iff_getElem.1 h.nod) k i b a q)
theorem MRel.set {M : MoD} {V : Int → Option (Int × Bs)} {k : Nat} {id r r' : Int} {pg pg' : Bs} (h : MRel M V) (hk : M.ids[k]? = some id) (hV : V id = some (r, pg)) : MRel ⟨M.ids, M.refs.set k r', M.pages.set k pg'⟩ (up V id (some (r', pg'))) := by
  have hkl := (List.getElem?_eq_some_iff.1 hk).1
  refine ⟨h.nod, by simp [h.l1], by simp [h.l2], fun {i j} hi => ?_, fun {j} hj => ?_⟩
  · dsimp only at hi ⊢
    by_cases q : i = k
    · subst q
      rw [hk] at hi; cases hi
      exact ⟨r', pg', List.getElem?_set_self (by rw [h.l1]; exact hkl), List.getElem?_set_self (by rw [h.l2]; exact hkl), up_self⟩
    · obtain ⟨r0, p0, h1, h2, h3⟩ := h.rel hi
      refine ⟨r0, p0, by rw [List.getElem?_set_ne (fun e => q e.symm)]; exact h1, by rw [List.getElem?_set_ne (fun e => q e.symm)]; exact h2, ?_⟩
      rw [up_ne (fun e => by subst e; exact q (h.idx hi hk))]; exact h3
  · by_cases q : j = id
    · subst q; exact List.mem_of_getElem? hk
    · rw [up_ne q] at hj; exact h.dom hj
theorem MRel.del {M : MoD} {V : Int → Option (Int × Bs)} {k : Nat} {id : Int} (h : MRel M V) (hk : M.ids[k]? = some id) : MRel ⟨M.ids.eraseIdx k, M.refs.eraseIdx k, M.pages.eraseIdx k⟩ (up V id none) := by
  have hkl := (List.getElem?_eq_some_iff.1 hk).1
  refine ⟨h.nod.sublist (List.eraseIdx_sublist ..), ?_, ?_, fun {i j} hi => ?_, fun {j} hj => ?_⟩
  · dsimp only; rw [List.length_eraseIdx, List.length_eraseIdx, if_pos hkl, if_pos (by rw [h.l1]; exact hkl), h.l1]
  · dsimp only; rw [List.length_eraseIdx, List.length_eraseIdx, if_pos hkl, if_pos (by rw [h.l2]; exact hkl), h.l2]
  · dsimp only at hi ⊢
    rw [List.getElem?_eraseIdx] at hi
    rw [List.getElem?_eraseIdx, List.getElem?_eraseIdx]
    by_cases q : i < k
    · rw [if_pos q] at hi
      rw [if_pos q, if_pos q]
      obtain ⟨r, p, h1, h2, h3⟩ := h.rel hi
      refine ⟨r, p, h1, h2, ?_⟩
      rw [up_ne (fun e => by subst e; have := h.idx hi hk; omega)]; exact h3
    · rw [if_neg q] at hi
      rw [if_neg q, if_neg q]
      obtain ⟨r, p, h1, h2, h3⟩ := h.rel hi
      refine ⟨r, p, h1, h2, ?_⟩
      rw [up_ne (fun e => by subst e; have := h.idx hi hk; omega)]; exact h3
  · by_cases q : j = id
    · subst q; rw [up_self] at hj; exact absurd rfl hj
    · rw [up_ne q] at hj
      obtain ⟨i, hi⟩ := List.mem_iff_getElem?.1 (h.dom hj)
      have hne : i ≠ k := fun e => by subst e; rw [hk] at hi; cases hi; exact q rfl
      rw [List.mem_eraseIdx_iff_getElem?]
      exact ⟨i, hne, hi⟩
theorem MRel.non {M : MoD} {V : Int → Option (Int × Bs)} {id : Int} (h : MRel M V) (hn : ∀ y ∈ M.ids, y ≠ id) : V id = none := by
  cases hq : V id with
  | none => rfl
  | some x => exact absurd rfl (hn id (h.dom (by rw [hq]; simp)))
theorem MRel.no {M : MoD} {V : Int → Option (Int × Bs)} {id : Int} {k : Nat} (h : MRel M V) (hn : V id = none) (hk : M.ids[k]? = some id) : False := by
  obtain ⟨r, p, _, _, h3⟩ := h.rel hk
  rw [hn] at h3; cases h3
structure MoX where
  a : Value
  b : Value
  c : Value
end Go.Proofs.YtnicmcdeoimhlaaGreat
/- laws of sheets: holds -/
namespace Go.Proofs.YtnicmcdeoimhlaaGreat
open Go.RowKit M
set_option linter.unusedVariables false
end Go.Proofs.YtnicmcdeoimhlaaGreat
/- laws of sheets: SheetsKeep -/
namespace Go.Proofs.YtnicmcdeoimhlaaGreat
open Go.RowKit M
set_option linter.unusedVariables false
theorem few_all {l : List OpD} {n : Int} (h : fewB l n = true) : (∀ (i : Nat) (o : OpD), l[i]? = some o → okO o = true) ∧ (l.length : Int) ≤ n := by
  simp only [fewB, Bool.and_eq_true, decide_eq_true_eq, List.all_eq_true] at h
  exact ⟨fun i o ho => h.1 o (List.mem_of_getElem? ho), h.2⟩
end Go.Proofs.YtnicmcdeoimhlaaGreat
/- laws of sheets: SheetsTaken -/
namespace Go.Proofs.YtnicmcdeoimhlaaGreat
open Go.RowKit M
set_option linter.unusedVariables false
/-- at most n sheets -/
def DomV (V : Int → Option (Int × Bs)) (n : Nat) : Prop := ∃ ids : List Int, ids.length ≤ n ∧ ∀ j, V j ≠ none → j ∈ ids
theorem DomV.nil : DomV (fun _ => none) 0 := ⟨[], Nat.le_refl _, fun j h => absurd rfl h⟩
theorem DomV.up1 {V : Int → Option (Int × Bs)} {n : Nat} (h : DomV V n) : DomV V (n + 1) := by obtain ⟨l, h1, h2⟩ := h; exact ⟨l, by omega, h2⟩
theorem DomV.put {V : Int → Option (Int × Bs)} {n : Nat} {j : Int} {o : Option (Int × Bs)} (h : DomV V n) : DomV (up V j o) (n + 1) := by
  obtain ⟨l, h1, h2⟩ := h
  refine ⟨j :: l, by simp; omega, fun i hi => ?_⟩
  by_cases q : i = j
  · subst q; simp
  · rw [up_ne q] at hi; exact List.mem_cons_of_mem _ (h2 i hi)
theorem DomV.step {o : OpD} {a e : Int} {V V' : Int → Option (Int × Bs)} {n : Nat} (hd : DomV V n) (h : DoV o a e V V') : DomV V' (n + 1) := by
  rcases h with ⟨_, _, _, _, h⟩ | ⟨_, ⟨_, _, h⟩ | ⟨_, _, _, h⟩⟩ | ⟨_, _, ⟨_, h⟩ | ⟨_, _, _, _, h⟩⟩ | ⟨_, _, ⟨_, h⟩ | ⟨_, _, _, _, ⟨_, h⟩ | ⟨_, h⟩⟩⟩ | ⟨_, _, ⟨_, h⟩ | ⟨_, _, _, _, _, h⟩⟩ | ⟨_, _, ⟨_, h⟩ | ⟨_, _, _, h⟩⟩ | ⟨_, h⟩
  all_goals subst h
  all_goals first | exact hd.up1 | exact hd.put
structure LiveL (S : SS) (L : List Int) : Prop where
  nod : L.Nodup
  mem : ∀ j, j ∈ L ↔ S.all j ≠ none
theorem live_of {S : SS} {ks : List Int} (h : AllC (aG S.all) ks) : LiveL S (sortI ks) := by
  refine ⟨(sortI_perm ks).nodup_iff.2 h.nodup, fun j => ?_⟩
  rw [(sortI_perm ks).mem_iff, h.mem j]
  unfold aG
  cases S.all j <;> simp
theorem LiveL.len {S : SS} {L : List Int} {n : Nat} (h : LiveL S L) (hd : DomV (vw S) n) : L.length ≤ n := by
  obtain ⟨ids, h1, h2⟩ := hd
  exact Nat.le_trans (nodup_le h.nod fun x hx => h2 x fun q => (h.mem x).1 hx (vw_nil q)) h1
theorem shliveL_sp {w : World} {p : Nat} {S : SS} {F : Th} (hS : Sat w [shT p S, F]) {n : Nat} (hd : DomV (vw S) n) (hn : n ≤ 1000000) : Calls Tryz.prog 17 #[ptrV p 0] w (Ret fun v w' => ∃ L, LiveL S L ∧ L.length ≤ n ∧ Sat w' [rowT inC v L, shT p S, F]) := by
  obtain ⟨ids, h1, h2⟩ := hd
  refine (shlive_sp hS (ids := ids) (fun j hj => h2 j fun q => hj (vw_nil q)) (by omega)).mono fun e w h => h.mono fun v w ⟨ks, hks, h3⟩ => ⟨sortI ks, live_of hks, ?_, h3⟩
  exact (live_of hks).len ⟨ids, h1, h2⟩
end Go.Proofs.YtnicmcdeoimhlaaGreat
/- laws of sheets: SheetsGone -/
namespace Go.Proofs.YtnicmcdeoimhlaaGreat
open Go.RowKit M
set_option linter.unusedVariables false
/-- references of one sheet are being removed -/
structure UnB (S1 S2 : SS) : Prop where
  frn : S2.fr.length = S1.fr.length
  slo : S2.slots = S1.slots
def UnR (T : Nat) (S1 S2 : SS) (j : Int) (n : Nat) (pg : Bs) (k : Nat) : Prop :=
  UnB S1 S2 ∧ ((k < n ∧ ShI no0 T S2 ∧ vw S2 = up (vw S1) j (some ((n : Int) - (k : Int), pg))) ∨ (k = n ∧ ShI no0 (T + 1) S2 ∧ vw S2 = up (vw S1) j none))
theorem up_up {β : Type} {A : Int → Option β} {j : Int} {v u : Option β} : up (up A j v) j u = up A j u := by
  funext i
  by_cases q : i = j
  · subst q; rw [up_self, up_self]
  · rw [up_ne q, up_ne q, up_ne q]
theorem up_id {β : Type} {A : Int → Option β} {j : Int} {v : Option β} (h : A j = v) : up A j v = A := by
  funext i
  by_cases q : i = j
  · subst q; rw [up_self, h]
  · rw [up_ne q]
theorem UnR.start {T : Nat} {S : SS} {j : Int} {x : ShE} {n : Nat} (hI : ShI no0 T S) (hx : S.all j = some x) (hn : x.refs = (n : Int)) : UnR T S S j n x.pg 0 := by
  have h1 := (hI.ent hx).2.2.1
  refine ⟨⟨rfl, rfl⟩, .inl ⟨by omega, hI, ?_⟩⟩
  refine (up_id ?_).symm
  rw [vw_some hx, hn]; simp
theorem UnR.get {T : Nat} {S1 S2 : SS} {j : Int} {n k : Nat} {pg : Bs} (h : UnR T S1 S2 j n pg k) (hk : k < n) : ∃ x, S2.all j = some x ∧ x.refs = (n : Int) - (k : Int) ∧ x.pg = pg ∧ ShI no0 T S2 := by
  rcases h with ⟨_, ⟨_, h1, h2⟩ | ⟨h1, _⟩⟩
  · obtain ⟨x, h3, h4, h5⟩ := vw_back (show vw S2 j = some ((n : Int) - (k : Int), pg) by rw [h2, up_self])
    exact ⟨x, h3, h4, h5, h1⟩
  · omega
theorem UnR.end {T : Nat} {S1 S2 : SS} {j : Int} {n k : Nat} {pg : Bs} (h : UnR T S1 S2 j n pg k) (hk : ¬ k < n) : ShI no0 (T + 1) S2 ∧ vw S2 = up (vw S1) j none := by
  rcases h with ⟨_, ⟨h1, _⟩ | ⟨_, h1⟩⟩
  · exact absurd h1 hk
  · exact h1
theorem UnR.del {T : Nat} {S1 S2 S3 : SS} {j : Int} {n k : Nat} {x : ShE} (h : UnR T S1 S2 j n x.pg k) (hr : x.refs = (n : Int) - (k : Int)) (h1 : x.refs = 1) (hD : DelS T S2 S3 j) : UnR T S1 S3 j n x.pg (k + 1) := by
  refine ⟨⟨hD.f.frn.trans h.1.frn, hD.f.slo.trans h.1.slo⟩, .inr ⟨by omega, hD.inv, ?_⟩⟩
  rcases h.2 with ⟨_, _, h3⟩ | ⟨h3, _⟩
  · rw [hD.is, h3, up_up]
  · omega
/-- the sheets of a list are gone, the others are as they were -/
structure GoneS (S S1 : SS) (l : List Int) : Prop where
  b : UnB S S1
  non : ∀ j ∈ l, vw S1 j = none
  same : ∀ j, j ∉ l → vw S1 j = vw S j
theorem GoneS.nil (S : SS) : GoneS S S [] := ⟨⟨rfl, rfl⟩, fun _ h => (by cases h), fun _ _ => rfl⟩
theorem GoneS.step {S S1 S2 : SS} {l : List Int} {j : Int} (h : GoneS S S1 l) (hb : UnB S1 S2) (hv : vw S2 = up (vw S1) j none) : GoneS S S2 (l ++ [j]) := by
  refine ⟨⟨hb.frn.trans h.b.frn, hb.slo.trans h.b.slo⟩, fun i hi => ?_, fun i hi => ?_⟩
  · by_cases q : i = j
    · subst q; rw [hv, up_self]
    · rw [hv, up_ne q]
      rcases List.mem_append.1 hi with hi | hi
      · exact h.non i hi
      · simp at hi; exact absurd hi q
  · rw [List.mem_append, List.mem_singleton] at hi
    rw [hv, up_ne (fun q => hi (.inr q)), h.same i fun q => hi (.inl q)]
theorem GoneS.all {S S1 : SS} {L : List Int} (h : GoneS S S1 L) (hL : LiveL S L) (j : Int) : S1.all j = none := by
  by_cases q : j ∈ L
  · exact vw_nil (h.non j q)
  · refine vw_nil ?_
    rw [h.same j q]
    cases hq : S.all j with
    | none => exact vw_none hq
    | some x => exact absurd ((hL.mem j).2 (by rw [hq]; simp)) q
theorem take_out {L : List Int} {i : Nat} {j : Int} (hn : L.Nodup) (hj : L[i]? = some j) : j ∉ L.take i := by
  intro q
  obtain ⟨k, hk⟩ := List.mem_iff_getElem?.1 q
  have hkl := (List.getElem?_eq_some_iff.1 hk).1
  rw [List.length_take] at hkl
  rw [List.getElem?_take_of_lt (by omega)] at hk
  obtain ⟨a, ha⟩ := List.getElem?_eq_some_iff.1 hj
  obtain ⟨b, hb⟩ := List.getElem?_eq_some_iff.1 hk
  exact absurd (hb.trans ha.symm) ((List.pairwise_iff_getElem.1 hn) k i b a (by omega))
theorem new_used (count slots budget : Int) : usedF (newS count slots budget).fr = 0 ∧ usedN (newS count slots budget).sl = 0 := ⟨usedF_none _, usedN_zero _⟩
end Go.Proofs.YtnicmcdeoimhlaaGreat
