/- names: List -/
import Derived.Test.YtkaikhcpcbjkcaaGreatDoorNm8
import Derived.Test.YtkaikhcpcbjkcaaGreatDoorRefw
import Derived.Test.YtkaikhcpcbjkcaaGreatDoorWr
namespace Go.Proofs.YtkaikhcpcbjkcaaGreatDoor
open Go.RowKit M
set_option linter.unusedVariables false
theorem hpi0 {w : World} {As : List Th} (hS : Sat w As) (s t : Bs) : Calls Tryz.prog 93 #[strV s, strV t] w (Ret fun v w' => v = .bool (Lib.hasPrefix s t) ∧ Sat w' As) :=
  (Tryz.stringslite_HasPrefix ⟨s.toArray⟩ ⟨t.toArray⟩ w).mono fun e w' ⟨h1, h2⟩ => ⟨_, h1, rfl, by rw [h2]; exact hS⟩
theorem hasPrefix_len {s t : Bs} (h : Lib.hasPrefix s t = true) : t.length ≤ s.length := by
  unfold Lib.hasPrefix at h
  exact (List.isPrefixOf_iff_prefix.1 h).length_le
theorem keysOf_has {c : Bs → Bs} {pre : Bs} {l : List Bs} {k : Bs} (h : KeysOf c pre l) (hk : k ∈ l) : c k ≠ [] ∧ Lib.hasPrefix k pre = true := by
  obtain ⟨l0, rfl, _, hm⟩ := h
  exact (hm k).1 ((sortS_perm l0).mem_iff.1 hk)
def offK (dir : Bs) (k : Bs) : Bs := k.drop (kE dir []).length
theorem trimI_sp {w : World} {F : Th} (hS : Sat w [F]) (s t : Bs) (hp : Lib.hasPrefix s t = true) :
    Calls Tryz.prog 100 #[strV s, strV t] w (Ret fun v w' => v = strV (s.drop t.length) ∧ Sat w' [F]) := by
 have htl := hasPrefix_len hp
 refine calls_enter Tryz.func100 rfl Tryz.ntmps100 rfl ?_
 refine wc_seq (wc_region (wl_assign rfl rfl (wl_nil (qs_seq (wc_seq (wc_seq (wc_region (wl_move rfl rfl (wl_move rfl rfl ?_)))))))))
 have hC1 := hS.split [] [false] rfl; dsimp only [selF, pickA, nthA, List.cons_append, List.nil_append] at hC1
 refine wl_call cal_93 rfl (hpi0 hC1 s t) rfl ?_
 rintro e w1 ⟨_, rfl, rfl, hS1⟩; refine ⟨_, rfl, ?_⟩
 replace hS1 := hS1.join rfl; dsimp only [List.dropLast, List.cons_append, List.nil_append] at hS1; clear hC1
 rw [hp]
 refine wl_nil (qs_seq ?_)
 refine wc_cond rfl (fun h2 => ?_) (fun h2 => ?_)
 ·refine wc_seq (wc_region (wl_move rfl rfl (wl_move rfl rfl ?_)))
  refine wl_lenS Tryz.underlying9 rfl rfl ?_
  refine wl_sliceS t.length s.length Tryz.underlying9 rfl (bndS t.length _ rfl rfl) (bndN _) (by first | omega | (simp; omega)) (by first | omega | (simp; omega)) rfl ?_
  rw [List.take_length]
  refine wl_assign rfl rfl (wl_nil (qs_seq (wc_ret (qs_then_ret ?_))))
  refine fin1 (.inr rfl) rfl rfl ?_
  exact ⟨_, rfl, rfl, hS1⟩
 exact absurd h2 (by simp)
theorem trim_sp {w : World} {F : Th} (hS : Sat w [F]) (s t : Bs) (hp : Lib.hasPrefix s t = true) :
    Calls Tryz.prog 71 #[strV s, strV t] w (Ret fun v w' => v = strV (s.drop t.length) ∧ Sat w' [F]) := by
 refine calls_enter Tryz.func71 rfl Tryz.ntmps71 rfl ?_
 refine wc_seq (wc_region (wl_assign rfl rfl (wl_nil (qs_seq (wc_seq (wc_region (wl_move rfl rfl (wl_move rfl rfl ?_))))))))
 have hC1 := hS.split [] [false] rfl; dsimp only [selF, pickA, nthA, List.cons_append, List.nil_append] at hC1
 refine wl_call cal_100 rfl (trimI_sp hC1 s t hp) rfl ?_
 rintro e w1 ⟨_, rfl, rfl, hS1⟩; refine ⟨_, rfl, ?_⟩
 replace hS1 := hS1.join rfl; dsimp only [List.dropLast, List.cons_append, List.nil_append] at hS1; clear hC1
 refine wl_assign rfl rfl (wl_nil (qs_seq (wc_ret ?_)))
 refine fin1 (.inr rfl) rfl rfl ?_
 exact ⟨_, rfl, rfl, hS1⟩
set_option maxRecDepth 100000 in
theorem list_sp {w : World} {p : Nat} {W : WS} {m : Nat} {F : Th} (hS : Sat w [worldT p W, F]) (hG : Ent F WireG) (hP : PI W m) (hm : m ≤ 900) (dir : Bs) (hd : dir.length ≤ 900) :
    Calls Tryz.prog 28 #[.iface 25 (ptrV p 0), strV dir] w (Ret fun v w' => ∃ sv L, v = .tuple #[sv, intV (dirE W dir)] ∧ ((dirE W dir ≠ 0 ∧ L = []) ∨ (dirE W dir = 0 ∧ ∃ lk, KeysOf W.cells (kE dir []) lk ∧ L = lk.map (offK dir))) ∧ Sat w' [rowT stC sv L, worldT p W, F]) := by
 refine calls_enter Tryz.func28 rfl Tryz.ntmps28 rfl ?_
 refine wc_seq (wc_region (wl_assign rfl rfl (wl_assign rfl rfl (wl_nil (qs_seq (wc_seq (wc_seq (wc_region (wl_move rfl rfl (wl_move rfl rfl ?_))))))))))
 have hC1 := hS.split [0] [true, false] rfl; dsimp only [selF, pickA, nthA, List.cons_append, List.nil_append] at hC1
 refine wl_call cal_52 rfl (dir_sp hC1 (hG.starL 0 rfl) hP.tb dir (by omega)) rfl ?_
 rintro e w1 ⟨_, rfl, rfl, hS1⟩; refine ⟨_, rfl, ?_⟩
 replace hS1 := hS1.join rfl; dsimp only [List.dropLast, List.cons_append, List.nil_append] at hS1; clear hC1
 refine wl_assign rfl rfl (wl_nil (qs_seq (wc_seq (wc_region (wl_move rfl rfl ?_)))))
 refine wl_neq rfl rfl rfl ?_
 refine wl_nil (qs_seq ?_)
 refine wc_condD rfl (fun h2 => ?_) (fun h2 => ?_)
 ·refine wc_seq (wc_region (wl_move rfl rfl (wl_assign rfl rfl (wl_assign rfl rfl (wl_nil (qs_seq ?_))))))
  refine wc_sub (L' := [(5, _), (4, _), (0, _), (1, _)]) (.cons rfl (.cons rfl (.cons rfl (.cons rfl .nil)))) ?_
  refine wc_ret (qs_then_ret ?_)
  refine fin2 (.inr rfl) rfl rfl rfl ?_
  exact ⟨_, rfl, _, _, rfl, .inl ⟨by assumption, rfl⟩, (hS1.pick [0, 1] rfl).row_nil stC⟩
 refine wc_skip (qs_seq (wc_seq (wc_region (wl_assign rfl rfl (wl_nil (qs_seq ?_))))))
 refine wc_sub (L' := [(7, _), (5, _), (4, _), (0, _), (1, _)]) (.cons rfl (.cons rfl (.cons rfl (.cons rfl (.cons rfl .nil))))) ?_
 refine wc_seq (wc_seq ?_)
 have hS3 := hS1.drew
 refine wc_draw [0, 1, 3, 4, 5, 8, 2, 6, 7] [2, 6] mix (by kernel_rfl) ?_
 refine vc_p rfl rfl rfl (fun _ => (ev_move rfl)) ?_
 refine vc_p rfl rfl rfl (fun _ => (ev_move rfl)) ?_
 refine vc_p rfl rfl rfl (fun _ => (ev_makeMeth rfl)) ?_
 refine vc_p rfl rfl rfl (fun _ => (ev_nilCheckMeth rfl (mnil_Keys p))) ?_
 refine vc_p rfl rfl rfl (fun _ => (ev_move rfl)) ?_
 refine vc_p rfl rfl rfl (fun _ => (ev_move rfl)) ?_
 refine vc_s rfl rfl rfl rfl rfl rfl ?_
 have hC4 := hS3.split [] [false, false] rfl; dsimp only [selF, pickA, nthA, List.cons_append, List.nil_append] at hC4
 refine wl_call cal_70 rfl (entry_sp hC4 dir [] (by omega) (by simp)) rfl ?_
 rintro e w4 ⟨_, rfl, rfl, hS4⟩; refine ⟨_, rfl, ?_⟩
 replace hS4 := hS4.join rfl; dsimp only [List.dropLast, List.cons_append, List.nil_append] at hS4; clear hC4
 clear hS3
 refine vc_e .nil ?_
 refine vc_s rfl rfl rfl rfl rfl rfl ?_
 have hC5 := hS4.split [0] [true, false] rfl; dsimp only [selF, pickA, nthA, List.cons_append, List.nil_append] at hC5
 refine wl_invoke (vs := [strV (kE dir [])]) rfl (imeth_Keys p) cal_17 rfl (keys_sp hC5 (kE dir []) (hP.kin (by omega))) rfl ?_
 rintro e w5 ⟨_, rfl, lk, hlk, hS5⟩; refine ⟨_, rfl, ?_⟩
 replace hS5 := hS5.join rfl; dsimp only [List.dropLast, List.cons_append, List.nil_append] at hS5; clear hC5
 clear hS4
 have hkn := cntK_le hP (kE dir []); rw [cntK_eq (CntOf.keys hlk)] at hkn
 obtain ⟨ka, kc, hkv, _⟩ := hS5.own_shape 0 rfl
 obtain rfl := hkv
 refine vc_e .nil ?_
 refine vc_p rfl rfl rfl (fun _ => (ev_lenL Tryz.underlying40 rfl)) ?_
 refine VC.nil (qs_seq ?_)
 refine wc_sub (L' := [(23, _), (22, _), (24, _), (7, _), (5, _), (4, _), (1, _)]) (.cons rfl (.cons rfl (.cons rfl (.cons rfl (.cons rfl (.cons rfl (.cons rfl .nil))))))) ?_
 refine wc_block ?_
 have hq0 := (hS5.pick [0, 1, 2] rfl).row_nil stC
 refine wc_loop (fun K0 E0 W0 => ∃ (i : Nat) (ov : Value), K0 = lk.length - i ∧ E0 = [(1, strV dir), (7, ov), (22, .slice ka lk.length kc), (23, intV (lk.length : Int)), (24, intV (i : Int))] ∧ Sat W0 [rowT stC ov ((lk.take i).map (offK dir)), rowT stC (.slice ka lk.length kc) lk, worldT p W, F] ∧ (i ≤ lk.length)) (L0 := [(1, _), (7, _), (22, _), (23, _), (24, _)]) (lk.length - 0) (.cons rfl (.cons rfl (.cons rfl (.cons rfl (.cons rfl .nil))))) ⟨0, _, rfl, rfl, hq0, by omega⟩ ?_
 rintro _ _ w6 ⟨i, ov, rfl, rfl, hS6, hi⟩
 refine wc_seq (wc_region ?_)
 refine wl_lss rfl rfl rfl ?_
 refine wl_nil (qs_seq (wc_seq ?_))
 refine wc_condD rfl (fun h7 => ?_) (fun h7 => ?_)
 ·obtain ⟨ky, hky⟩ : ∃ y, lk[i]? = some y := ⟨_, List.getElem?_eq_getElem (by omega)⟩
  obtain ⟨kb, kc9, hqk, _⟩ := hS6.own_at 1 rfl (by omega)
  cases hqk
  have hkp := (keysOf_has hlk (List.mem_of_getElem? hky)).2
  refine wc_skip (qs_seq (wc_seq (wc_block (wc_seq (wc_region ?_)))))
  refine wl_rowIdx stC 1 i hS6 rfl rfl rfl (by first | rfl | omega) hky es_40 rfl ?_
  intro bx8 capx8 hvx8
  refine wl_rowLoad 1 i 0 hS6 rfl hvx8 rfl rfl hky ag_9 rfl rfl ?_
  refine wl_assign rfl rfl (wl_nil (qs_seq (wc_region (wl_move rfl rfl (wl_move rfl rfl (wl_move rfl rfl ?_))))))
  have hC9 := hS6.split [] [false, false, false, false] rfl; dsimp only [selF, pickA, nthA, List.cons_append, List.nil_append] at hC9
  refine wl_call cal_70 rfl (entry_sp hC9 dir [] (by omega) (by simp)) rfl ?_
  rintro e w9 ⟨_, rfl, rfl, hS9⟩; refine ⟨_, rfl, ?_⟩
  replace hS9 := hS9.join rfl; dsimp only [List.dropLast, List.cons_append, List.nil_append] at hS9; clear hC9
  clear hS6
  have hC10 := hS9.split [] [false, false, false, false] rfl; dsimp only [selF, pickA, nthA, List.cons_append, List.nil_append] at hC10
  refine wl_call cal_71 rfl (trim_sp hC10 ky (kE dir []) hkp) rfl ?_
  rintro e w10 ⟨_, rfl, rfl, hS10⟩; refine ⟨_, rfl, ?_⟩
  replace hS10 := hS10.join rfl; dsimp only [List.dropLast, List.cons_append, List.nil_append] at hS10; clear hC10
  clear hS9
  refine wl_rowBuild stC [offK dir ky] hS10 rfl Tryz.underlying40 ifz_9 rfl rfl rfl rfl (by first | rfl | simp [RowC.cells, fillL, splice]) rfl ?_
  intro bbk w11 hS11
  clear hS10
  refine wl_rowApp stC 1 hS11 rfl rfl rfl (hS11.rd 0 rfl (by simp)) Tryz.underlying40 Tryz.underlying40 (by intro k hk; cases hk) ifo_9 rfl (by first | omega | (rw [List.length_map, List.length_take]; simp; omega)) rfl (by first | omega | (rw [List.length_map, List.length_take]; simp; omega)) ?_
  intro v12 w12 hS12; dsimp only [List.set] at hS12
  clear hS11
  have h1v12 : v12.oneCell' = true := hS12.own_one 1 rfl
  refine wl_assign rfl rfl (wl_nil (qs_block_normal (qs_seq ?_)))
  refine wc_sub (L' := [(7, _), (1, _), (22, _), (23, _), (24, _)]) (.cons rfl (.cons rfl (.cons rfl (.cons rfl (.cons rfl .nil))))) ?_
  refine wc_region ?_
  refine wl_add rfl rfl (by first | omega | (simp; omega)) (by first | omega | (simp; omega)) rfl ?_
  refine wl_move rfl rfl (wl_nil ?_)
  have hSy : Sat _ [rowT stC v12 (((lk.take i).map (offK dir)) ++ [offK dir ky]), _, _, _] := hS12.pick [1, 2, 3, 4] rfl
  rw [show ((lk.take i).map (offK dir)) ++ [offK dir ky] = ((lk.take (i + 1)).map (offK dir)) by rw [List.take_add_one, hky, Option.toList_some, List.map_append]; rfl] at hSy
  exact qs_round (L1 := [(1, _), (7, v12), (22, _), (23, _), (24, intV ((i + 1 : Nat) : Int))]) (.cons rfl (.cons rfl (.cons rfl (.cons rfl (.cons rfl .nil))))) (k1 := lk.length - (i + 1)) (by omega) ⟨i + 1, _, rfl, rfl, hSy, by omega⟩
 refine wc_exit (qs_then_exit (qs_then_exit (qs_block_exit (qs_seq (wc_seq (wc_region (wl_move rfl rfl (wl_assign rfl rfl (wl_assign rfl rfl (wl_nil (qs_seq (wc_ret ?_))))))))))))
 refine fin2 (.inr rfl) rfl rfl rfl ?_
 have hd0 : dirE W dir = 0 := Decidable.not_not.1 (by assumption)
 have hS9 := hS6.pick [0, 2, 3] rfl
 rw [List.take_of_length_le (by omega)] at hS9
 exact ⟨_, rfl, _, _, by rw [hd0], .inr ⟨hd0, lk, hlk, rfl⟩, hS9⟩
end Go.Proofs.YtkaikhcpcbjkcaaGreatDoor
/- reference 01: numbers as text -/
namespace Go.Proofs.YtkaikhcpcbjkcaaGreatDoor
open Go.RowKit M
set_option linter.unusedVariables false
theorem decDigits_len (u : Nat) (h : u < 10000000000000000000) : (Lib.decDigits u).length ≤ 19 := by rw [Lib.decDigits_length]; exact nDigits_le 18 u (by simpa using h)
set_option maxRecDepth 100000 in
theorem digits_sp (u : Nat) : ∀ {w : World} {F : Th}, Sat w [F] → u ≤ 9223372036854775808 → Calls Tryz.prog 118 #[intV (-(u : Int))] w (Ret fun v w' => v = strV (Lib.decDigits u) ∧ Sat w' [F]) := by
 induction u using Nat.strongRecOn with
 | _ u ih =>
 intro w F hS hu
 refine calls_enter Tryz.func118 rfl Tryz.ntmps118 rfl ?_
 refine wc_seq (wc_region (wl_assign rfl rfl (wl_nil (qs_seq (wc_seq (wc_region (wl_move rfl rfl ?_)))))))
 refine wl_remN rfl rfl (by omega) (by omega) rfl ?_
 refine wl_sub' rfl rfl (by first | omega | (simp; omega)) (by first | omega | (simp; omega)) rfl ?_
 refine wl_convToU8 (48 + u % 10) Tryz.underlying3 Tryz.underlying5 rfl (by first | rfl | omega) rfl ?_
 refine wl_rowBuild byC [UInt8.ofNat (48 + u % 10)] hS rfl Tryz.underlying140 ifz_5 rfl rfl rfl rfl (by first | rfl | simp [RowC.cells, fillL, splice]) rfl ?_
 intro b1 w1 hS1
 refine wl_rowStr 0 hS1 rfl rfl Tryz.underlying140 Tryz.underlying5 Tryz.underlying9 rfl ?_
 refine wl_assign rfl rfl (wl_nil (qs_seq (wc_seq (wc_seq (wc_region (wl_move rfl rfl ?_))))))
 refine wl_gtr rfl rfl rfl ?_
 refine wl_nil (qs_seq ?_)
 refine wc_sub (L' := [(11, _), (3, _), (2, _), (0, _)]) (.cons rfl (.cons rfl (.cons rfl (.cons rfl .nil)))) ?_
 refine wc_condD rfl (fun h2 => ?_) (fun h2 => ?_)
 ·refine wc_seq (wc_region (wl_move rfl rfl (wl_assign rfl rfl (wl_nil (qs_seq (wc_ret (qs_then_ret ?_)))))))
  refine fin1 (.inr rfl) rfl rfl ?_
  exact ⟨_, rfl, by rw [dig_one (by omega)], hS1.pick [1] rfl⟩
 refine wc_skip (qs_seq (wc_seq ?_))
 have hdl := decDigits_len (u / 10) (by omega)
 refine wc_region (wl_move rfl rfl ?_)
 refine wl_quoN rfl rfl (by omega) (by omega) (by omega) rfl ?_
 rw [show -(-(-(u : Int)) / 10) = -((u / 10 : Nat) : Int) by omega]
 have hC3 := hS1.split [] [false, false] rfl; dsimp only [selF, pickA, nthA, List.cons_append, List.nil_append] at hC3
 refine wl_call cal_118 rfl (ih (u / 10) (by omega) hC3 (by omega)) rfl ?_
 rintro e w3 ⟨_, rfl, rfl, hS3⟩; refine ⟨_, rfl, ?_⟩
 replace hS3 := hS3.join rfl; dsimp only [List.dropLast, List.cons_append, List.nil_append] at hS3; clear hC3
 clear hS1
 refine wl_move rfl rfl ?_
 refine wl_concat rfl rfl (by first | omega | (simp; omega)) rfl ?_
 refine wl_assign rfl rfl (wl_nil (qs_seq (wc_ret ?_)))
 refine fin1 (.inr rfl) rfl rfl ?_
 exact ⟨_, rfl, by rw [dig_step (u := u) (by omega)], hS3.pick [1] rfl⟩
theorem digits_sp' {w : World} {F : Th} (hS : Sat w [F]) (n : Int) (u : Nat) (hn : n = -(u : Int)) (hu : u ≤ 9223372036854775808) : Calls Tryz.prog 118 #[intV n] w (Ret fun v w' => v = strV (Lib.decDigits u) ∧ Sat w' [F]) := by subst hn; exact digits_sp u hS hu
theorem r1Int_sp {w : World} {F : Th} (hS : Sat w [F]) (n : Int) (hn : inI n) :
    Calls Tryz.prog 97 #[intV n] w (Ret fun v w' => v = strV (Lib.itoa n ++ [59]) ∧ Sat w' [F]) := by
 unfold inI at hn
 refine calls_enter Tryz.func97 rfl Tryz.ntmps97 rfl ?_
 refine wc_seq (wc_region (wl_assign rfl rfl (wl_nil (qs_seq (wc_seq (wc_seq (wc_region (wl_move rfl rfl ?_))))))))
 refine wl_lss rfl rfl rfl ?_
 refine wl_nil (qs_seq ?_)
 refine wc_condD rfl (fun h1 => ?_) (fun h1 => ?_)
 ·refine wc_seq (wc_region (wl_move rfl rfl ?_))
  have hC2 := hS.split [] [false] rfl; dsimp only [selF, pickA, nthA, List.cons_append, List.nil_append] at hC2
  refine wl_call cal_118 rfl (digits_sp' hC2 n n.natAbs (by omega) (by omega)) rfl ?_
  rintro e w2 ⟨_, rfl, rfl, hS2⟩; refine ⟨_, rfl, ?_⟩
  replace hS2 := hS2.join rfl; dsimp only [List.dropLast, List.cons_append, List.nil_append] at hS2; clear hC2
  have hdl := decDigits_len n.natAbs (by omega)
  refine wl_concat rfl rfl (by first | omega | (simp; omega)) rfl ?_
  refine wl_concat rfl rfl (by first | omega | (simp; omega)) rfl ?_
  refine wl_assign rfl rfl (wl_nil (qs_seq (wc_ret (qs_then_ret ?_))))
  refine fin1 (.inr rfl) rfl rfl ?_
  exact ⟨_, rfl, by rw [show Lib.itoa n = 45 :: Lib.decDigits n.natAbs by have h9 := Lib.itoa_neg n.natAbs (by omega); rwa [show -((n.natAbs : Nat) : Int) = n by omega] at h9]; rfl, hS2⟩
 refine wc_skip (qs_seq (wc_seq (wc_region (wl_move rfl rfl ?_))))
 refine wl_neg rfl (by first | omega | (simp; omega)) (by first | omega | (simp; omega)) rfl ?_
 have hC3 := hS.split [] [false] rfl; dsimp only [selF, pickA, nthA, List.cons_append, List.nil_append] at hC3
 refine wl_call cal_118 rfl (digits_sp' hC3 (-n) n.toNat (by omega) (by omega)) rfl ?_
 rintro e w3 ⟨_, rfl, rfl, hS3⟩; refine ⟨_, rfl, ?_⟩
 replace hS3 := hS3.join rfl; dsimp only [List.dropLast, List.cons_append, List.nil_append] at hS3; clear hC3
 have hdl := decDigits_len n.toNat (by omega)
 refine wl_concat rfl rfl (by first | omega | (simp; omega)) rfl ?_
 refine wl_assign rfl rfl (wl_nil (qs_seq (wc_ret ?_)))
 refine fin1 (.inr rfl) rfl rfl ?_
 exact ⟨_, rfl, by rw [show Lib.itoa n = Lib.decDigits n.toNat by rw [← Lib.itoa_nonneg, Int.toNat_of_nonneg (by omega)]], hS3⟩
theorem back_no {s : Bs} {j : Nat} {c : UInt8} (hj : fromB s ≤ j) (hc : s[j]? = some c) (h : c.toNat < 48 ∨ 57 < c.toNat ∨ 20 < j) : ∀ m, inI m → s ≠ Lib.itoa m := by
  rintro m hm rfl
  have h1 := itoa_digit hj hc
  have h2 := (itoa_len hm).1
  have h3 := (List.getElem?_eq_some_iff.1 hc).1
  omega
theorem back_cmp {s : Bs} : decide (Lib.itoa (backV s) ++ [59] = s ++ [59]) = decide (s = Lib.itoa (backV s)) := by
  congr 1; exact propext ⟨fun h => (List.append_cancel_right h).symm, fun h => by rw [← h]⟩
theorem back_yes {s : Bs} (h : decide (s = Lib.itoa (backV s)) = false) : ∀ m, inI m → s ≠ Lib.itoa m := by
  rintro m hm rfl
  rw [backV_itoa hm] at h
  simp at h
theorem backS_next {s : Bs} {f j : Nat} {c : UInt8} (h : f ≤ j) (hc : s[j]? = some c) : backS 0 ((s.drop f).take (j + 1 - f)) = IntKind.i64.wrap (IntKind.i64.wrap (10 * backS 0 ((s.drop f).take (j - f))) - ((c.toNat : Int) - 48)) := by
  rw [show j + 1 - f = (j - f) + 1 by omega, List.take_add_one, List.getElem?_drop, show f + (j - f) = j by omega, hc]
  exact backS_snoc _ _
theorem fromB_le (s : Bs) : fromB s ≤ s.length := by
  unfold fromB; split
  · rename_i h; have := (List.getElem?_eq_some_iff.1 h).1; omega
  · omega
theorem fromB_le1 (s : Bs) : fromB s ≤ 1 := by unfold fromB; split <;> omega
set_option maxRecDepth 100000 in
theorem back_sp {w : World} {F : Th} (hS : Sat w [F]) (s : Bs) (hs : s.length ≤ 1000) :
    Calls Tryz.prog 124 #[strV s] w (Ret fun v w' => ∃ n ok, v = .tuple #[intV n, .bool ok] ∧ inI n ∧ (ok = true → s = Lib.itoa n) ∧ (ok = false → ∀ m, inI m → s ≠ Lib.itoa m) ∧ Sat w' [F]) := by
 refine calls_enter Tryz.func124 rfl Tryz.ntmps124 rfl ?_
 refine wc_seq (wc_region (wl_assign rfl rfl (wl_assign rfl rfl (wl_nil (qs_seq (wc_seq (wc_region (wl_assign rfl rfl (wl_nil (qs_seq ?_))))))))))
 refine wc_mid (fun E0 W0 => E0 = [(0, strV s), (4, intV (fromB s : Int))] ∧ Sat W0 [F]) ?_ ?_
 ·refine wc_seq (wc_region (wl_move rfl rfl ?_))
  refine wl_lenS Tryz.underlying9 rfl rfl ?_
  refine wl_gtr rfl rfl rfl ?_
  refine wl_move rfl rfl ?_
  refine wl_splitD 10 rfl (fun h2 => ?_) (fun h2 => ?_)
  ·obtain ⟨c0, hc0⟩ : ∃ c, s[0]? = some c := ⟨_, List.getElem?_eq_getElem (by omega)⟩
   refine wl_guard rfl rfl (decide_eq_true h2) ?_
   refine wl_move rfl rfl ?_
   refine wl_guard rfl rfl (decide_eq_true h2) ?_
   refine wl_indexS 0 Tryz.underlying9 rfl rfl (by first | rfl | omega) hc0 rfl ?_
   refine wl_guard rfl rfl (decide_eq_true h2) ?_
   refine wl_eql rfl rfl rfl ?_
   refine wl_pickT rfl (decide_eq_true h2) rfl rfl ?_
   refine wl_nil (qs_seq ?_)
   refine wc_sub (L' := [(14, _), (4, _), (3, _), (2, _), (0, _)]) (.cons rfl (.cons rfl (.cons rfl (.cons rfl (.cons rfl .nil))))) ?_
   refine wc_condD rfl (fun h3 => ?_) (fun h3 => ?_)
   ·refine wc_region (wl_assign rfl rfl (wl_nil ?_))
    have hf : fromB s = 1 := by unfold fromB; rw [hc0, if_pos (by congr 1; exact UInt8.toNat_inj.1 (show c0.toNat = 45 by omega))]
    exact qs_mid (L' := [(0, strV s), (4, intV 1)]) (.cons rfl (.cons rfl .nil)) ⟨by rw [hf]; rfl, hS⟩
   refine wc_skip ?_
   have hf : fromB s = 0 := by unfold fromB; rw [hc0, if_neg (by intro q; injection q with q; subst q; exact absurd rfl (by assumption))]
   exact qs_mid (L' := [(0, strV s), (4, intV 0)]) (.cons rfl (.cons rfl .nil)) ⟨by rw [hf]; rfl, hS⟩
  refine wl_unwanted rfl rfl (decide_eq_false h2) rfl ?_
  refine wl_unwanted rfl rfl (decide_eq_false h2) rfl ?_
  refine wl_unwanted rfl rfl (decide_eq_false h2) rfl ?_
  refine wl_pickF rfl (decide_eq_false h2) rfl rfl ?_
  refine wl_nil (qs_seq ?_)
  refine wc_sub (L' := [(14, _), (4, _), (3, _), (2, _), (0, _)]) (.cons rfl (.cons rfl (.cons rfl (.cons rfl (.cons rfl .nil))))) ?_
  refine wc_condF rfl ?_
  refine wc_skip ?_
  have hf : fromB s = 0 := by unfold fromB; rw [List.getElem?_eq_none (by omega)]; rfl
  exact qs_mid (L' := [(0, strV s), (4, intV 0)]) (.cons rfl (.cons rfl .nil)) ⟨by rw [hf]; rfl, hS⟩
 rintro _ w1 ⟨rfl, hS1⟩
 refine wc_seq (wc_region (wl_assign rfl rfl (wl_nil (qs_seq (wc_seq (wc_seq (wc_region (wl_move rfl rfl (wl_assign rfl rfl (wl_nil (qs_seq (wc_block ?_))))))))))))
 refine wc_loop (fun K0 E0 W0 => ∃ (j : Nat), K0 = s.length - j ∧ E0 = [(0, strV s), (4, intV (fromB s : Int)), (5, intV (backS 0 ((s.drop (fromB s)).take (j - fromB s)))), (6, intV (j : Int))] ∧ Sat W0 [F] ∧ (fromB s ≤ j ∧ j ≤ s.length)) (L0 := [(0, _), (4, _), (5, _), (6, _)]) (s.length - fromB s) (.cons rfl (.cons rfl (.cons rfl (.cons rfl .nil)))) ⟨fromB s, rfl, by rw [Nat.sub_self]; rfl, hS1, by have : fromB s ≤ s.length := fromB_le s; omega⟩ ?_
 rintro _ _ w4 ⟨j, rfl, rfl, hS4, hj⟩
 refine wc_seq (wc_seq (wc_region (wl_move rfl rfl (wl_move rfl rfl ?_))))
 refine wl_lenS Tryz.underlying9 rfl rfl ?_
 refine wl_lss rfl rfl rfl ?_
 refine wl_nil (qs_seq ?_)
 refine wc_condD rfl (fun h5 => ?_) (fun h5 => ?_)
 ·obtain ⟨ch, hch⟩ : ∃ c, s[j]? = some c := ⟨_, List.getElem?_eq_getElem (by omega)⟩
  have hch256 := ch.toNat_lt
  refine wc_skip (qs_seq (wc_seq (wc_block (wc_seq (wc_seq (wc_region (wl_move rfl rfl (wl_move rfl rfl ?_))))))))
  refine wl_indexS j Tryz.underlying9 rfl rfl (by first | rfl | omega) hch rfl ?_
  refine wl_lss rfl rfl rfl ?_
  refine wl_move rfl rfl ?_
  refine wl_splitD 26 rfl (fun h6 => ?_) (fun h6 => ?_)
  ·refine wl_unwanted rfl rfl (decide_eq_true h6) rfl ?_
   refine wl_unwanted rfl rfl (decide_eq_true h6) rfl ?_
   refine wl_unwanted rfl rfl (decide_eq_true h6) rfl ?_
   refine wl_unwanted rfl rfl (decide_eq_true h6) rfl ?_
   refine wl_pickT rfl (decide_eq_true h6) rfl rfl ?_
   refine wl_move rfl rfl ?_
   refine wl_unwanted rfl rfl rfl rfl ?_
   refine wl_unwanted rfl rfl rfl rfl ?_
   refine wl_pickT rfl rfl rfl rfl ?_
   refine wl_nil (qs_seq ?_)
   refine wc_sub (L' := [(35, _), (0, _), (4, _), (5, _), (6, _)]) (.cons rfl (.cons rfl (.cons rfl (.cons rfl (.cons rfl .nil))))) ?_
   refine wc_condT rfl ?_
   refine wc_seq (wc_region (wl_assign rfl rfl (wl_assign rfl rfl (wl_nil (qs_seq (wc_ret (qs_then_ret (qs_block_ret (qs_then_ret (qs_then_ret (qs_block_ret (qs_then_ret ?_))))))))))))
   refine fin2 (.inr rfl) rfl rfl rfl ?_
   exact ⟨_, rfl, 0, false, rfl, by unfold inI; omega, (fun q => by cases q), (fun _ => back_no hj.1 hch (by omega)), hS4⟩
  refine wl_guard rfl rfl (decide_eq_false h6) ?_
  refine wl_move rfl rfl ?_
  refine wl_guard rfl rfl (decide_eq_false h6) ?_
  refine wl_move rfl rfl ?_
  refine wl_guard rfl rfl (decide_eq_false h6) ?_
  refine wl_indexS j Tryz.underlying9 rfl rfl (by first | rfl | omega) hch rfl ?_
  refine wl_guard rfl rfl (decide_eq_false h6) ?_
  refine wl_gtr rfl rfl rfl ?_
  refine wl_pickF rfl (decide_eq_false h6) rfl rfl ?_
  refine wl_move rfl rfl ?_
  refine wl_splitD 32 rfl (fun h7 => ?_) (fun h7 => ?_)
  ·refine wl_unwanted rfl rfl (decide_eq_true h7) rfl ?_
   refine wl_unwanted rfl rfl (decide_eq_true h7) rfl ?_
   refine wl_pickT rfl (decide_eq_true h7) rfl rfl ?_
   refine wl_nil (qs_seq ?_)
   refine wc_sub (L' := [(35, _), (0, _), (4, _), (5, _), (6, _)]) (.cons rfl (.cons rfl (.cons rfl (.cons rfl (.cons rfl .nil))))) ?_
   refine wc_condT rfl ?_
   refine wc_seq (wc_region (wl_assign rfl rfl (wl_assign rfl rfl (wl_nil (qs_seq (wc_ret (qs_then_ret (qs_block_ret (qs_then_ret (qs_then_ret (qs_block_ret (qs_then_ret ?_))))))))))))
   refine fin2 (.inr rfl) rfl rfl rfl ?_
   exact ⟨_, rfl, 0, false, rfl, by unfold inI; omega, (fun q => by cases q), (fun _ => back_no hj.1 hch (by omega)), hS4⟩
  refine wl_guard rfl rfl (decide_eq_false h7) ?_
  refine wl_move rfl rfl ?_
  refine wl_guard rfl rfl (decide_eq_false h7) ?_
  refine wl_gtr rfl rfl rfl ?_
  refine wl_pickF rfl (decide_eq_false h7) rfl rfl ?_
  refine wl_nil (qs_seq ?_)
  refine wc_sub (L' := [(35, _), (0, _), (4, _), (5, _), (6, _)]) (.cons rfl (.cons rfl (.cons rfl (.cons rfl (.cons rfl .nil))))) ?_
  refine wc_condD rfl (fun h8 => ?_) (fun h8 => ?_)
  ·refine wc_seq (wc_region (wl_assign rfl rfl (wl_assign rfl rfl (wl_nil (qs_seq (wc_ret (qs_then_ret (qs_block_ret (qs_then_ret (qs_then_ret (qs_block_ret (qs_then_ret ?_))))))))))))
   refine fin2 (.inr rfl) rfl rfl rfl ?_
   exact ⟨_, rfl, 0, false, rfl, by unfold inI; omega, (fun q => by cases q), (fun _ => back_no hj.1 hch (by omega)), hS4⟩
  refine wc_skip (qs_seq (wc_region (wl_move rfl rfl ?_)))
  refine wl_mulW rfl rfl rfl rfl ?_
  refine wl_move rfl rfl (wl_move rfl rfl ?_)
  refine wl_indexS j Tryz.underlying9 rfl rfl (by first | rfl | omega) hch rfl ?_
  refine wl_subW (c := ((UInt8.ofNat (ch.toNat - 48)).toNat : Int)) rfl rfl (by rw [show IntKind.u8.wrap ((ch.toNat : Int) - 48) = ((ch.toNat : Int) - 48) % 256 by simp [IntKind.wrap, IntKind.signed, IntKind.bits]]; simp; omega) rfl ?_
  refine wl_convU8 Tryz.underlying5 Tryz.underlying3 rfl rfl ?_
  refine wl_subW rfl rfl rfl rfl ?_
  refine wl_assign rfl rfl (wl_nil (qs_block_normal (qs_seq ?_)))
  refine wc_sub (L' := [(5, _), (0, _), (4, _), (6, _)]) (.cons rfl (.cons rfl (.cons rfl (.cons rfl .nil)))) ?_
  refine wc_region (wl_move rfl rfl ?_)
  refine wl_add rfl rfl (by first | omega | (simp; omega)) (by first | omega | (simp; omega)) rfl ?_
  refine wl_assign rfl rfl (wl_nil ?_)
  exact qs_round (L1 := [(0, _), (4, _), (5, _), (6, intV ((j + 1 : Nat) : Int))]) (.cons rfl (.cons rfl (.cons rfl (.cons rfl .nil)))) (k1 := s.length - (j + 1)) (by omega) ⟨j + 1, rfl, by congr 1; rw [backS_next (by omega) hch]; simp only [show ((UInt8.ofNat (ch.toNat - 48)).toNat : Int) = (ch.toNat : Int) - 48 by simp; omega], hS4, by omega⟩
 refine wc_exit (qs_then_exit (qs_then_exit (qs_block_exit (qs_seq (wc_seq (wc_seq (wc_region (wl_move rfl rfl ?_))))))))
 refine wl_eql rfl rfl rfl ?_
 refine wl_nil (qs_seq ?_)
 refine wc_condD rfl (fun h9 => ?_) (fun h9 => ?_)
 ·refine wc_region (wl_move rfl rfl ?_)
  refine wl_negW rfl rfl ?_
  refine wl_assign rfl rfl (wl_nil (qs_seq ?_))
  refine wc_sub (L' := [(5, _), (0, _)]) (.cons rfl (.cons rfl .nil)) ?_
  refine wc_seq ?_
  have hbv : IntKind.i64.wrap (-(backS 0 ((s.drop (fromB s)).take (j - fromB s)))) = backV s := by unfold backV; rw [if_pos (by omega), show fromB s = 0 by omega, List.drop_zero, Nat.sub_zero, List.take_of_length_le (by omega)]
  rw [hbv]
  refine wc_region (wl_move rfl rfl (wl_move rfl rfl ?_))
  have hC10 := hS4.split [] [false] rfl; dsimp only [selF, pickA, nthA, List.cons_append, List.nil_append] at hC10
  refine wl_call cal_97 rfl (r1Int_sp hC10 (backV s) (backV_in s)) rfl ?_
  rintro e w10 ⟨_, rfl, rfl, hS10⟩; refine ⟨_, rfl, ?_⟩
  replace hS10 := hS10.join rfl; dsimp only [List.dropLast, List.cons_append, List.nil_append] at hS10; clear hC10
  clear hS4
  refine wl_move rfl rfl ?_
  refine wl_concat rfl rfl (by first | omega | (simp; omega)) rfl ?_
  refine wl_eqlS rfl rfl rfl ?_
  refine wl_assign rfl rfl (wl_assign rfl rfl (wl_nil (qs_seq (wc_ret ?_))))
  refine fin2 (.inr rfl) rfl rfl rfl ?_
  exact ⟨_, rfl, backV s, _, by rw [back_cmp], backV_in s, (fun q => of_decide_eq_true q), (fun q => back_yes q), hS10⟩
 refine wc_skip (qs_seq (wc_seq ?_))
 have hbv : backS 0 ((s.drop (fromB s)).take (j - fromB s)) = backV s := by have h1 := fromB_le1 s; unfold backV; rw [if_neg (by omega), show fromB s = 1 by omega, List.take_of_length_le (by simp; omega)]
 rw [hbv]
 refine wc_region (wl_move rfl rfl (wl_move rfl rfl ?_))
 have hC11 := hS4.split [] [false] rfl; dsimp only [selF, pickA, nthA, List.cons_append, List.nil_append] at hC11
 refine wl_call cal_97 rfl (r1Int_sp hC11 (backV s) (backV_in s)) rfl ?_
 rintro e w11 ⟨_, rfl, rfl, hS11⟩; refine ⟨_, rfl, ?_⟩
 replace hS11 := hS11.join rfl; dsimp only [List.dropLast, List.cons_append, List.nil_append] at hS11; clear hC11
 clear hS4
 refine wl_move rfl rfl ?_
 refine wl_concat rfl rfl (by first | omega | (simp; omega)) rfl ?_
 refine wl_eqlS rfl rfl rfl ?_
 refine wl_assign rfl rfl (wl_assign rfl rfl (wl_nil (qs_seq ?_)))
 refine wc_sub (L' := [(3, _), (2, _)]) (.cons rfl (.cons rfl .nil)) ?_
 refine wc_ret ?_
 refine fin2 (.inr rfl) rfl rfl rfl ?_
 exact ⟨_, rfl, backV s, _, by rw [back_cmp], backV_in s, (fun q => of_decide_eq_true q), (fun q => back_yes q), hS11⟩
end Go.Proofs.YtkaikhcpcbjkcaaGreatDoor
/- reference 01: the reader -/
namespace Go.Proofs.YtkaikhcpcbjkcaaGreatDoor
open Go.RowKit M
set_option linter.unusedVariables false
theorem r1Open_sp {w : World} {F : Th} (hS : Sat w [F]) (s : Bs) :
    Calls Tryz.prog 78 #[strV s] w (Ret fun v w' => ∃ b, v = ptrV b 0 ∧ Sat w' [readT b (s, false), F]) := by
 refine calls_enter Tryz.func78 rfl Tryz.ntmps78 rfl ?_
 refine wc_seq (wc_region (wl_assign rfl rfl (wl_nil (qs_seq (wc_seq (wc_region (wl_move rfl rfl ?_)))))))
 refine wl_buildS rfl pl_135_0 asz_135 zr_135 rfl rfl ?_
 refine wl_box hS rfl rfl rfl ?_
 intro b1 w1 hS1
 refine wl_assign rfl rfl (wl_nil (qs_seq (wc_ret ?_)))
 refine fin1 (.inr rfl) rfl rfl ?_
 exact ⟨_, rfl, _, rfl, hS1⟩
theorem r1Fail_sp {w : World} {F : Th} {b : Nat} {s : Bs × Bool} (hS : Sat w [readT b s, F]) :
    Calls Tryz.prog 123 #[ptrV b 0] w (Ret fun v w' => v = intV 0 ∧ Sat w' [readT b ([], true), F]) := by
 refine calls_enter Tryz.func123 rfl Tryz.ntmps123 rfl ?_
 refine wc_seq (wc_region (wl_assign rfl rfl (wl_nil (qs_seq (wc_seq (wc_region (wl_move rfl rfl (wl_nilCheck rfl rfl ?_))))))))
 refine wl_fieldAddr rfl fo_135_0 rfl ?_
 first | (refine wl_store hS rfl rfl sz_9 (by first | rfl | assumption) (i := 0) rfl (by first | decide | exact Nat.le_of_ble_eq_true rfl | (simp; done) | omega) ?_)
 intro w1 hS2; dsimp only [List.set] at hS2
 refine wl_nil (qs_seq (wc_seq (wc_region (wl_move rfl rfl (wl_nilCheck rfl rfl ?_)))))
 refine wl_fieldAddr rfl fo_135_1 rfl ?_
 first | (refine wl_store hS2 rfl rfl sz_4 (by first | rfl | assumption) (i := 0) rfl (by first | decide | exact Nat.le_of_ble_eq_true rfl | (simp; done) | omega) ?_)
 intro w3 hS4; dsimp only [List.set] at hS4
 clear hS2
 refine wl_nil (qs_seq (wc_seq (wc_region (wl_assign rfl rfl (wl_nil (qs_seq (wc_ret ?_)))))))
 refine fin1 (.inr rfl) rfl rfl ?_
 exact ⟨_, rfl, rfl, hS4⟩
theorem ahead_far {e : UInt8} {r : Bs} {k : Nat} (hno : ∀ j, j < k → r[j]? ≠ some e) (h : r.length ≤ k ∨ 21 ≤ k ∨ (20 < k + 1 ∧ ∃ c, r[k]? = some c ∧ c ≠ e ∧ 21 ≤ k)) : numP e (-9223372036854775808) r = none := by
  refine numP_far fun j hj => ?_
  by_cases hjk : j < k
  · exact hno j hjk
  · rcases h with h | h | h
    · rw [List.getElem?_eq_none (by omega)]; simp
    · omega
    · omega
theorem ahead_bad {e : UInt8} {r : Bs} {k : Nat} (he : 57 < e.toNat) (hno : ∀ j, j < k → r[j]? ≠ some e) (hk : r[k]? = some e) (h : ∀ m, inI m → r.take k ≠ Lib.itoa m) : numP e (-9223372036854775808) r = none := by
  cases hq : numP e (-9223372036854775808) r with
  | none => rfl
  | some x =>
    obtain ⟨m, r'⟩ := x
    obtain ⟨h1, _, h2⟩ := numP_first he hno hk hq
    exact absurd h1 (h m h2)
set_option maxRecDepth 100000 in
theorem ahead_sp {w : World} {F : Th} {b : Nat} {s : Bs × Bool} (hS : Sat w [readT b s, F]) (e : UInt8) (he : 57 < e.toNat) (hrl : s.1.length ≤ 9223372036854775806) :
    Calls Tryz.prog 103 #[ptrV b 0, byteV e] w (Ret fun v w' => v = intV (numV e (-9223372036854775808) s) ∧ Sat w' [readT b (numR e (-9223372036854775808) s), F]) := by
 obtain ⟨r, q⟩ := s
 dsimp only at hrl
 change Sat w [blkT b [strV r, .bool q], F] at hS
 refine calls_enter Tryz.func103 rfl Tryz.ntmps103 rfl ?_
 refine wc_seq (wc_region (wl_assign rfl rfl (wl_nil (qs_seq (wc_seq (wc_region (wl_assign rfl rfl (wl_nil (qs_seq (wc_seq (wc_block ?_)))))))))))
 refine wc_loop (fun K0 E0 W0 => ∃ (k : Nat), K0 = 21 - k ∧ E0 = [(0, ptrV b 0), (1, byteV e), (5, intV (k : Int))] ∧ Sat W0 [blkT b [strV r, .bool q], F] ∧ (k ≤ 21 ∧ k ≤ r.length) ∧ (∀ j, j < k → r[j]? ≠ some e)) (L0 := [(0, _), (1, _), (5, _)]) (21 - 0) (.cons rfl (.cons rfl (.cons rfl .nil))) ⟨0, rfl, rfl, hS, by omega, by omega⟩ ?_
 rintro _ _ w1 ⟨k, rfl, rfl, hS1, hk, hno⟩
 refine wc_seq (wc_seq (wc_region (wl_move rfl rfl (wl_move rfl rfl (wl_nilCheck rfl rfl ?_)))))
 refine wl_fieldAddr rfl fo_135_0 rfl ?_
 refine wl_load rfl ag_9 (by first | assumption | exact hS1.cell 0 rfl rfl) rfl ?_
 refine wl_lenS Tryz.underlying9 rfl rfl ?_
 refine wl_lss rfl rfl rfl ?_
 refine wl_move rfl rfl ?_
 refine wl_splitD 15 rfl (fun h2 => ?_) (fun h2 => ?_)
 ·obtain ⟨ch, hck⟩ : ∃ c, r[k]? = some c := ⟨_, List.getElem?_eq_getElem (by omega)⟩
  refine wl_guard rfl rfl (decide_eq_true h2) ?_
  refine wl_move rfl rfl ?_
  refine wl_guard rfl rfl (decide_eq_true h2) ?_
  refine wl_lss rfl rfl rfl ?_
  refine wl_pickT rfl (decide_eq_true h2) rfl rfl ?_
  refine wl_move rfl rfl ?_
  refine wl_splitD 19 rfl (fun h3 => ?_) (fun h3 => ?_)
  ·refine wl_guard rfl rfl (decide_eq_true h3) ?_
   refine wl_move rfl rfl ?_
   refine wl_guard rfl rfl (decide_eq_true h3) ?_
   refine wl_nilCheck rfl rfl ?_
   refine wl_guard rfl rfl (decide_eq_true h3) ?_
   refine wl_fieldAddr rfl fo_135_0 rfl ?_
   refine wl_guard rfl rfl (decide_eq_true h3) ?_
   refine wl_load rfl ag_9 (by first | assumption | exact hS1.cell 0 rfl rfl) rfl ?_
   refine wl_guard rfl rfl (decide_eq_true h3) ?_
   refine wl_move rfl rfl ?_
   refine wl_guard rfl rfl (decide_eq_true h3) ?_
   refine wl_indexS k Tryz.underlying9 rfl rfl (by first | rfl | omega) hck rfl ?_
   refine wl_guard rfl rfl (decide_eq_true h3) ?_
   refine wl_move rfl rfl ?_
   refine wl_guard rfl rfl (decide_eq_true h3) ?_
   refine wl_neq rfl rfl rfl ?_
   refine wl_pickT rfl (decide_eq_true h3) rfl rfl ?_
   refine wl_nil (qs_seq ?_)
   refine wc_sub (L' := [(28, _), (0, _), (1, _), (5, _)]) (.cons rfl (.cons rfl (.cons rfl (.cons rfl .nil)))) ?_
   refine wc_condD rfl (fun h4 => ?_) (fun h4 => ?_)
   ·refine wc_skip (qs_seq (wc_block (wc_region (wl_move rfl rfl ?_))))
    refine wl_add rfl rfl (by omega) (by omega) rfl ?_
    refine wl_assign rfl rfl (wl_nil (qs_block_normal ?_))
    exact qs_round (L1 := [(0, _), (1, _), (5, intV ((k + 1 : Nat) : Int))]) (.cons rfl (.cons rfl (.cons rfl .nil))) (k1 := 21 - (k + 1)) (by omega) ⟨k + 1, rfl, rfl, hS1, by omega, fun j hj => by by_cases ej : j = k; (subst ej; rw [hck]; intro qe; injection qe with qe; subst qe; exact absurd rfl (by assumption)); exact hno j (by omega)⟩
   refine wc_exit (qs_then_exit (qs_then_exit (qs_block_exit (qs_seq (wc_seq (wc_seq (wc_region (wl_move rfl rfl (wl_move rfl rfl (wl_nilCheck rfl rfl ?_))))))))))
   refine wl_fieldAddr rfl fo_135_0 rfl ?_
   refine wl_load rfl ag_9 (by first | assumption | exact hS1.cell 0 rfl rfl) rfl ?_
   refine wl_lenS Tryz.underlying9 rfl rfl ?_
   refine wl_geq rfl rfl rfl ?_
   refine wl_nil (qs_seq ?_)
   refine wc_sub (L' := [(37, _), (0, _), (1, _), (5, _)]) (.cons rfl (.cons rfl (.cons rfl (.cons rfl .nil)))) ?_
   refine wc_condD rfl (fun h5 => ?_) (fun h5 => ?_)
   ·exact absurd h5 (by omega)
   obtain ⟨ch2, hc2⟩ : ∃ c, r[k]? = some c := ⟨_, List.getElem?_eq_getElem (by omega)⟩
   refine wc_skip (qs_seq (wc_seq (wc_seq (wc_region (wl_move rfl rfl (wl_nilCheck rfl rfl ?_))))))
   refine wl_fieldAddr rfl fo_135_0 rfl ?_
   refine wl_load rfl ag_9 (by first | assumption | exact hS1.cell 0 rfl rfl) rfl ?_
   refine wl_move rfl rfl ?_
   refine wl_indexS k Tryz.underlying9 rfl rfl (by first | rfl | omega) hc2 rfl ?_
   refine wl_move rfl rfl ?_
   refine wl_neq rfl rfl rfl ?_
   refine wl_nil (qs_seq ?_)
   refine wc_sub (L' := [(47, _), (0, _), (5, _)]) (.cons rfl (.cons rfl (.cons rfl .nil))) ?_
   refine wc_condD rfl (fun h6 => ?_) (fun h6 => ?_)
   ·(rw [hck] at hc2; cases hc2; exact absurd h6 (by omega))
   have hce : r[k]? = some e := by have hq9 := UInt8.toNat_inj.1 (show ch2.toNat = e.toNat by omega); rw [hc2, hq9]
   refine wc_skip (qs_seq (wc_seq (wc_region (wl_move rfl rfl (wl_nilCheck rfl rfl ?_)))))
   refine wl_fieldAddr rfl fo_135_0 rfl ?_
   refine wl_load rfl ag_9 (by first | assumption | exact hS1.cell 0 rfl rfl) rfl ?_
   refine wl_move rfl rfl ?_
   refine wl_sliceS 0 k Tryz.underlying9 rfl (bndN _) (bndS k _ rfl rfl) (by omega) (by omega) rfl ?_
   rw [List.drop_zero]
   have hC7 := hS1.split [] [false, false] rfl; dsimp only [selF, pickA, nthA, List.cons_append, List.nil_append] at hC7
   refine wl_call cal_124 rfl (back_sp hC7 (r.take k) (by simp; omega)) rfl ?_
   rintro e w7 ⟨_, rfl, vn, ok, rfl, hvi, hok, hbad, hS7⟩; refine ⟨_, rfl, ?_⟩
   replace hS7 := hS7.join rfl; dsimp only [List.dropLast, List.cons_append, List.nil_append] at hS7; clear hC7
   clear hS1
   refine wl_move rfl rfl (wl_extract rfl rfl rfl (wl_extract rfl rfl rfl (wl_assign rfl rfl (wl_assign rfl rfl (wl_nil (qs_seq ?_))))))
   refine wc_sub (L' := [(7, _), (6, _), (0, _), (5, _)]) (.cons rfl (.cons rfl (.cons rfl (.cons rfl .nil)))) ?_
   refine wc_seq (wc_seq (wc_region (wl_move rfl rfl ?_)))
   refine wl_not rfl rfl ?_
   refine wl_nil (qs_seq ?_)
   refine wc_cond rfl (fun h8 => ?_) (fun h8 => ?_)
   ·refine wc_seq (wc_region (wl_move rfl rfl ?_))
    have hC9 := hS7.split [0] [true, false] rfl; dsimp only [selF, pickA, nthA, List.cons_append, List.nil_append] at hC9
    refine wl_call cal_123 rfl (r1Fail_sp (s := (r, q)) hC9) rfl ?_
    rintro e w9 ⟨_, rfl, rfl, hS9⟩; refine ⟨_, rfl, ?_⟩
    replace hS9 := hS9.join rfl; dsimp only [List.dropLast, List.cons_append, List.nil_append] at hS9; clear hC9
    clear hS7
    refine wl_assign rfl rfl (wl_nil (qs_seq (wc_ret (qs_then_ret ?_))))
    refine fin1 (.inr rfl) rfl rfl ?_
    have hnp := ahead_bad he hno hce (hbad (by simpa using (by assumption : (!ok) = true)))
    exact ⟨_, rfl, by rw [(num_none (s := (r, q)) hnp).1], by rw [(num_none (s := (r, q)) hnp).2]; exact hS9⟩
   refine wc_skip (qs_seq (wc_seq (wc_region (wl_move rfl rfl (wl_move rfl rfl (wl_nilCheck rfl rfl ?_))))))
   refine wl_fieldAddr rfl fo_135_0 rfl ?_
   refine wl_load rfl ag_9 (by first | assumption | exact hS7.cell 0 rfl rfl) rfl ?_
   refine wl_move rfl rfl ?_
   refine wl_add rfl rfl (by omega) (by omega) rfl ?_
   refine wl_sliceS (k + 1) r.length Tryz.underlying9 rfl (bndS (k + 1) _ rfl rfl) (bndN _) (by omega) (by omega) rfl ?_
   rw [List.take_length]
   refine wl_nilCheck rfl rfl ?_
   refine wl_fieldAddr rfl fo_135_0 rfl ?_
   first | (refine wl_store hS7 rfl rfl sz_9 (by first | rfl | assumption) (i := 0) rfl (by first | decide | exact Nat.le_of_ble_eq_true rfl | (simp; done) | omega) ?_)
   intro w10 hS11; dsimp only [List.set] at hS11
   clear hS7
   refine wl_nil (qs_seq ?_)
   refine wc_sub (L' := [(6, _)]) (.cons rfl .nil) ?_
   refine wc_seq (wc_region (wl_move rfl rfl (wl_assign rfl rfl (wl_nil (qs_seq (wc_ret ?_))))))
   refine fin1 (.inr rfl) rfl rfl ?_
   have hnp := numP_back (least := -9223372036854775808) he hce hvi hvi.1 (hok (by simpa using (by assumption : (!ok) = false)))
   exact ⟨_, rfl, by rw [(num_some (s := (r, q)) hnp).1], by rw [(num_some (s := (r, q)) hnp).2]; exact hS11⟩
  refine wl_unwanted rfl rfl (decide_eq_false h3) rfl ?_
  refine wl_unwanted rfl rfl (decide_eq_false h3) rfl ?_
  refine wl_unwanted rfl rfl (decide_eq_false h3) rfl ?_
  refine wl_unwanted rfl rfl (decide_eq_false h3) rfl ?_
  refine wl_unwanted rfl rfl (decide_eq_false h3) rfl ?_
  refine wl_unwanted rfl rfl (decide_eq_false h3) rfl ?_
  refine wl_unwanted rfl rfl (decide_eq_false h3) rfl ?_
  refine wl_unwanted rfl rfl (decide_eq_false h3) rfl ?_
  refine wl_pickF rfl (decide_eq_false h3) rfl rfl ?_
  refine wl_nil (qs_seq ?_)
  refine wc_sub (L' := [(28, _), (0, _), (1, _), (5, _)]) (.cons rfl (.cons rfl (.cons rfl (.cons rfl .nil)))) ?_
  refine wc_condF rfl ?_
  refine wc_exit (qs_then_exit (qs_then_exit (qs_block_exit (qs_seq (wc_seq (wc_seq (wc_region (wl_move rfl rfl (wl_move rfl rfl (wl_nilCheck rfl rfl ?_))))))))))
  refine wl_fieldAddr rfl fo_135_0 rfl ?_
  refine wl_load rfl ag_9 (by first | assumption | exact hS1.cell 0 rfl rfl) rfl ?_
  refine wl_lenS Tryz.underlying9 rfl rfl ?_
  refine wl_geq rfl rfl rfl ?_
  refine wl_nil (qs_seq ?_)
  refine wc_sub (L' := [(37, _), (0, _), (1, _), (5, _)]) (.cons rfl (.cons rfl (.cons rfl (.cons rfl .nil)))) ?_
  refine wc_condD rfl (fun h12 => ?_) (fun h12 => ?_)
  ·exact absurd h12 (by omega)
  obtain ⟨ch2, hc2⟩ : ∃ c, r[k]? = some c := ⟨_, List.getElem?_eq_getElem (by omega)⟩
  refine wc_skip (qs_seq (wc_seq (wc_seq (wc_region (wl_move rfl rfl (wl_nilCheck rfl rfl ?_))))))
  refine wl_fieldAddr rfl fo_135_0 rfl ?_
  refine wl_load rfl ag_9 (by first | assumption | exact hS1.cell 0 rfl rfl) rfl ?_
  refine wl_move rfl rfl ?_
  refine wl_indexS k Tryz.underlying9 rfl rfl (by first | rfl | omega) hc2 rfl ?_
  refine wl_move rfl rfl ?_
  refine wl_neq rfl rfl rfl ?_
  refine wl_nil (qs_seq ?_)
  refine wc_sub (L' := [(47, _), (0, _), (5, _)]) (.cons rfl (.cons rfl (.cons rfl .nil))) ?_
  refine wc_condD rfl (fun h13 => ?_) (fun h13 => ?_)
  ·refine wc_seq (wc_region (wl_move rfl rfl ?_))
   have hC14 := hS1.split [0] [true, false] rfl; dsimp only [selF, pickA, nthA, List.cons_append, List.nil_append] at hC14
   refine wl_call cal_123 rfl (r1Fail_sp (s := (r, q)) hC14) rfl ?_
   rintro e w14 ⟨_, rfl, rfl, hS14⟩; refine ⟨_, rfl, ?_⟩
   replace hS14 := hS14.join rfl; dsimp only [List.dropLast, List.cons_append, List.nil_append] at hS14; clear hC14
   clear hS1
   refine wl_assign rfl rfl (wl_nil (qs_seq (wc_ret (qs_then_ret ?_))))
   refine fin1 (.inr rfl) rfl rfl ?_
   have hnp := ahead_far hno (.inr (.inl (by omega)))
   exact ⟨_, rfl, by rw [(num_none (s := (r, q)) hnp).1], by rw [(num_none (s := (r, q)) hnp).2]; exact hS14⟩
  have hce : r[k]? = some e := by have hq9 := UInt8.toNat_inj.1 (show ch2.toNat = e.toNat by omega); rw [hc2, hq9]
  refine wc_skip (qs_seq (wc_seq (wc_region (wl_move rfl rfl (wl_nilCheck rfl rfl ?_)))))
  refine wl_fieldAddr rfl fo_135_0 rfl ?_
  refine wl_load rfl ag_9 (by first | assumption | exact hS1.cell 0 rfl rfl) rfl ?_
  refine wl_move rfl rfl ?_
  refine wl_sliceS 0 k Tryz.underlying9 rfl (bndN _) (bndS k _ rfl rfl) (by omega) (by omega) rfl ?_
  rw [List.drop_zero]
  have hC15 := hS1.split [] [false, false] rfl; dsimp only [selF, pickA, nthA, List.cons_append, List.nil_append] at hC15
  refine wl_call cal_124 rfl (back_sp hC15 (r.take k) (by simp; omega)) rfl ?_
  rintro e w15 ⟨_, rfl, vn, ok, rfl, hvi, hok, hbad, hS15⟩; refine ⟨_, rfl, ?_⟩
  replace hS15 := hS15.join rfl; dsimp only [List.dropLast, List.cons_append, List.nil_append] at hS15; clear hC15
  clear hS1
  refine wl_move rfl rfl (wl_extract rfl rfl rfl (wl_extract rfl rfl rfl (wl_assign rfl rfl (wl_assign rfl rfl (wl_nil (qs_seq ?_))))))
  refine wc_sub (L' := [(7, _), (6, _), (0, _), (5, _)]) (.cons rfl (.cons rfl (.cons rfl (.cons rfl .nil)))) ?_
  refine wc_seq (wc_seq (wc_region (wl_move rfl rfl ?_)))
  refine wl_not rfl rfl ?_
  refine wl_nil (qs_seq ?_)
  refine wc_cond rfl (fun h16 => ?_) (fun h16 => ?_)
  ·refine wc_seq (wc_region (wl_move rfl rfl ?_))
   have hC17 := hS15.split [0] [true, false] rfl; dsimp only [selF, pickA, nthA, List.cons_append, List.nil_append] at hC17
   refine wl_call cal_123 rfl (r1Fail_sp (s := (r, q)) hC17) rfl ?_
   rintro e w17 ⟨_, rfl, rfl, hS17⟩; refine ⟨_, rfl, ?_⟩
   replace hS17 := hS17.join rfl; dsimp only [List.dropLast, List.cons_append, List.nil_append] at hS17; clear hC17
   clear hS15
   refine wl_assign rfl rfl (wl_nil (qs_seq (wc_ret (qs_then_ret ?_))))
   refine fin1 (.inr rfl) rfl rfl ?_
   have hnp := ahead_bad he hno hce (hbad (by simpa using (by assumption : (!ok) = true)))
   exact ⟨_, rfl, by rw [(num_none (s := (r, q)) hnp).1], by rw [(num_none (s := (r, q)) hnp).2]; exact hS17⟩
  refine wc_skip (qs_seq (wc_seq (wc_region (wl_move rfl rfl (wl_move rfl rfl (wl_nilCheck rfl rfl ?_))))))
  refine wl_fieldAddr rfl fo_135_0 rfl ?_
  refine wl_load rfl ag_9 (by first | assumption | exact hS15.cell 0 rfl rfl) rfl ?_
  refine wl_move rfl rfl ?_
  refine wl_add rfl rfl (by omega) (by omega) rfl ?_
  refine wl_sliceS (k + 1) r.length Tryz.underlying9 rfl (bndS (k + 1) _ rfl rfl) (bndN _) (by omega) (by omega) rfl ?_
  rw [List.take_length]
  refine wl_nilCheck rfl rfl ?_
  refine wl_fieldAddr rfl fo_135_0 rfl ?_
  first | (refine wl_store hS15 rfl rfl sz_9 (by first | rfl | assumption) (i := 0) rfl (by first | decide | exact Nat.le_of_ble_eq_true rfl | (simp; done) | omega) ?_)
  intro w18 hS19; dsimp only [List.set] at hS19
  clear hS15
  refine wl_nil (qs_seq ?_)
  refine wc_sub (L' := [(6, _)]) (.cons rfl .nil) ?_
  refine wc_seq (wc_region (wl_move rfl rfl (wl_assign rfl rfl (wl_nil (qs_seq (wc_ret ?_))))))
  refine fin1 (.inr rfl) rfl rfl ?_
  have hnp := numP_back (least := -9223372036854775808) he hce hvi hvi.1 (hok (by simpa using (by assumption : (!ok) = false)))
  exact ⟨_, rfl, by rw [(num_some (s := (r, q)) hnp).1], by rw [(num_some (s := (r, q)) hnp).2]; exact hS19⟩
 refine wl_unwanted rfl rfl (decide_eq_false h2) rfl ?_
 refine wl_unwanted rfl rfl (decide_eq_false h2) rfl ?_
 refine wl_pickF rfl (decide_eq_false h2) rfl rfl ?_
 refine wl_move rfl rfl ?_
 refine wl_unwanted rfl rfl rfl rfl ?_
 refine wl_unwanted rfl rfl rfl rfl ?_
 refine wl_unwanted rfl rfl rfl rfl ?_
 refine wl_unwanted rfl rfl rfl rfl ?_
 refine wl_unwanted rfl rfl rfl rfl ?_
 refine wl_unwanted rfl rfl rfl rfl ?_
 refine wl_unwanted rfl rfl rfl rfl ?_
 refine wl_unwanted rfl rfl rfl rfl ?_
 refine wl_pickF rfl rfl rfl rfl ?_
 refine wl_nil (qs_seq ?_)
 refine wc_sub (L' := [(28, _), (0, _), (1, _), (5, _)]) (.cons rfl (.cons rfl (.cons rfl (.cons rfl .nil)))) ?_
 refine wc_condF rfl ?_
 refine wc_exit (qs_then_exit (qs_then_exit (qs_block_exit (qs_seq (wc_seq (wc_seq (wc_region (wl_move rfl rfl (wl_move rfl rfl (wl_nilCheck rfl rfl ?_))))))))))
 refine wl_fieldAddr rfl fo_135_0 rfl ?_
 refine wl_load rfl ag_9 (by first | assumption | exact hS1.cell 0 rfl rfl) rfl ?_
 refine wl_lenS Tryz.underlying9 rfl rfl ?_
 refine wl_geq rfl rfl rfl ?_
 refine wl_nil (qs_seq ?_)
 refine wc_sub (L' := [(37, _), (0, _), (1, _), (5, _)]) (.cons rfl (.cons rfl (.cons rfl (.cons rfl .nil)))) ?_
 refine wc_condD rfl (fun h20 => ?_) (fun h20 => ?_)
 ·refine wc_seq (wc_region (wl_move rfl rfl ?_))
  have hC21 := hS1.split [0] [true, false] rfl; dsimp only [selF, pickA, nthA, List.cons_append, List.nil_append] at hC21
  refine wl_call cal_123 rfl (r1Fail_sp (s := (r, q)) hC21) rfl ?_
  rintro e w21 ⟨_, rfl, rfl, hS21⟩; refine ⟨_, rfl, ?_⟩
  replace hS21 := hS21.join rfl; dsimp only [List.dropLast, List.cons_append, List.nil_append] at hS21; clear hC21
  clear hS1
  refine wl_assign rfl rfl (wl_nil (qs_seq (wc_ret (qs_then_ret ?_))))
  refine fin1 (.inr rfl) rfl rfl ?_
  have hnp := ahead_far hno (.inl (by omega))
  exact ⟨_, rfl, by rw [(num_none (s := (r, q)) hnp).1], by rw [(num_none (s := (r, q)) hnp).2]; exact hS21⟩
 obtain ⟨ch2, hc2⟩ : ∃ c, r[k]? = some c := ⟨_, List.getElem?_eq_getElem (by omega)⟩
 refine wc_skip (qs_seq (wc_seq (wc_seq (wc_region (wl_move rfl rfl (wl_nilCheck rfl rfl ?_))))))
 refine wl_fieldAddr rfl fo_135_0 rfl ?_
 refine wl_load rfl ag_9 (by first | assumption | exact hS1.cell 0 rfl rfl) rfl ?_
 refine wl_move rfl rfl ?_
 refine wl_indexS k Tryz.underlying9 rfl rfl (by first | rfl | omega) hc2 rfl ?_
 refine wl_move rfl rfl ?_
 refine wl_neq rfl rfl rfl ?_
 refine wl_nil (qs_seq ?_)
 refine wc_sub (L' := [(47, _), (0, _), (5, _)]) (.cons rfl (.cons rfl (.cons rfl .nil))) ?_
 refine wc_condD rfl (fun h22 => ?_) (fun h22 => ?_)
 ·refine wc_seq (wc_region (wl_move rfl rfl ?_))
  have hC23 := hS1.split [0] [true, false] rfl; dsimp only [selF, pickA, nthA, List.cons_append, List.nil_append] at hC23
  refine wl_call cal_123 rfl (r1Fail_sp (s := (r, q)) hC23) rfl ?_
  rintro e w23 ⟨_, rfl, rfl, hS23⟩; refine ⟨_, rfl, ?_⟩
  replace hS23 := hS23.join rfl; dsimp only [List.dropLast, List.cons_append, List.nil_append] at hS23; clear hC23
  clear hS1
  refine wl_assign rfl rfl (wl_nil (qs_seq (wc_ret (qs_then_ret ?_))))
  refine fin1 (.inr rfl) rfl rfl ?_
  have hnp := ahead_far hno (.inr (.inl (by omega)))
  exact ⟨_, rfl, by rw [(num_none (s := (r, q)) hnp).1], by rw [(num_none (s := (r, q)) hnp).2]; exact hS23⟩
 have hce : r[k]? = some e := by have hq9 := UInt8.toNat_inj.1 (show ch2.toNat = e.toNat by omega); rw [hc2, hq9]
 refine wc_skip (qs_seq (wc_seq (wc_region (wl_move rfl rfl (wl_nilCheck rfl rfl ?_)))))
 refine wl_fieldAddr rfl fo_135_0 rfl ?_
 refine wl_load rfl ag_9 (by first | assumption | exact hS1.cell 0 rfl rfl) rfl ?_
 refine wl_move rfl rfl ?_
 refine wl_sliceS 0 k Tryz.underlying9 rfl (bndN _) (bndS k _ rfl rfl) (by omega) (by omega) rfl ?_
 rw [List.drop_zero]
 have hC24 := hS1.split [] [false, false] rfl; dsimp only [selF, pickA, nthA, List.cons_append, List.nil_append] at hC24
 refine wl_call cal_124 rfl (back_sp hC24 (r.take k) (by simp; omega)) rfl ?_
 rintro e w24 ⟨_, rfl, vn, ok, rfl, hvi, hok, hbad, hS24⟩; refine ⟨_, rfl, ?_⟩
 replace hS24 := hS24.join rfl; dsimp only [List.dropLast, List.cons_append, List.nil_append] at hS24; clear hC24
 clear hS1
 refine wl_move rfl rfl (wl_extract rfl rfl rfl (wl_extract rfl rfl rfl (wl_assign rfl rfl (wl_assign rfl rfl (wl_nil (qs_seq ?_))))))
 refine wc_sub (L' := [(7, _), (6, _), (0, _), (5, _)]) (.cons rfl (.cons rfl (.cons rfl (.cons rfl .nil)))) ?_
 refine wc_seq (wc_seq (wc_region (wl_move rfl rfl ?_)))
 refine wl_not rfl rfl ?_
 refine wl_nil (qs_seq ?_)
 refine wc_cond rfl (fun h25 => ?_) (fun h25 => ?_)
 ·refine wc_seq (wc_region (wl_move rfl rfl ?_))
  have hC26 := hS24.split [0] [true, false] rfl; dsimp only [selF, pickA, nthA, List.cons_append, List.nil_append] at hC26
  refine wl_call cal_123 rfl (r1Fail_sp (s := (r, q)) hC26) rfl ?_
  rintro e w26 ⟨_, rfl, rfl, hS26⟩; refine ⟨_, rfl, ?_⟩
  replace hS26 := hS26.join rfl; dsimp only [List.dropLast, List.cons_append, List.nil_append] at hS26; clear hC26
  clear hS24
  refine wl_assign rfl rfl (wl_nil (qs_seq (wc_ret (qs_then_ret ?_))))
  refine fin1 (.inr rfl) rfl rfl ?_
  have hnp := ahead_bad he hno hce (hbad (by simpa using (by assumption : (!ok) = true)))
  exact ⟨_, rfl, by rw [(num_none (s := (r, q)) hnp).1], by rw [(num_none (s := (r, q)) hnp).2]; exact hS26⟩
 refine wc_skip (qs_seq (wc_seq (wc_region (wl_move rfl rfl (wl_move rfl rfl (wl_nilCheck rfl rfl ?_))))))
 refine wl_fieldAddr rfl fo_135_0 rfl ?_
 refine wl_load rfl ag_9 (by first | assumption | exact hS24.cell 0 rfl rfl) rfl ?_
 refine wl_move rfl rfl ?_
 refine wl_add rfl rfl (by omega) (by omega) rfl ?_
 refine wl_sliceS (k + 1) r.length Tryz.underlying9 rfl (bndS (k + 1) _ rfl rfl) (bndN _) (by omega) (by omega) rfl ?_
 rw [List.take_length]
 refine wl_nilCheck rfl rfl ?_
 refine wl_fieldAddr rfl fo_135_0 rfl ?_
 first | (refine wl_store hS24 rfl rfl sz_9 (by first | rfl | assumption) (i := 0) rfl (by first | decide | exact Nat.le_of_ble_eq_true rfl | (simp; done) | omega) ?_)
 intro w27 hS28; dsimp only [List.set] at hS28
 clear hS24
 refine wl_nil (qs_seq ?_)
 refine wc_sub (L' := [(6, _)]) (.cons rfl .nil) ?_
 refine wc_seq (wc_region (wl_move rfl rfl (wl_assign rfl rfl (wl_nil (qs_seq (wc_ret ?_))))))
 refine fin1 (.inr rfl) rfl rfl ?_
 have hnp := numP_back (least := -9223372036854775808) he hce hvi hvi.1 (hok (by simpa using (by assumption : (!ok) = false)))
 exact ⟨_, rfl, by rw [(num_some (s := (r, q)) hnp).1], by rw [(num_some (s := (r, q)) hnp).2]; exact hS28⟩
theorem r1RInt_sp {w : World} {F : Th} {b : Nat} {s : Bs × Bool} (hS : Sat w [readT b s, F]) (hrl : s.1.length ≤ 9223372036854775806) :
    Calls Tryz.prog 79 #[ptrV b 0] w (Ret fun v w' => v = intV (numV 59 (-9223372036854775808) s) ∧ Sat w' [readT b (numR 59 (-9223372036854775808) s), F]) := by
 refine calls_enter Tryz.func79 rfl Tryz.ntmps79 rfl ?_
 refine wc_seq (wc_region (wl_assign rfl rfl (wl_nil (qs_seq (wc_seq (wc_region (wl_move rfl rfl ?_)))))))
 have hC1 := hS.split [0] [true, false] rfl; dsimp only [selF, pickA, nthA, List.cons_append, List.nil_append] at hC1
 refine wl_call cal_103 rfl (ahead_sp hC1 59 (by decide) hrl) rfl ?_
 rintro e w1 ⟨_, rfl, rfl, hS1⟩; refine ⟨_, rfl, ?_⟩
 replace hS1 := hS1.join rfl; dsimp only [List.dropLast, List.cons_append, List.nil_append] at hS1; clear hC1
 refine wl_assign rfl rfl (wl_nil (qs_seq (wc_ret ?_)))
 refine fin1 (.inr rfl) rfl rfl ?_
 exact ⟨_, rfl, rfl, hS1⟩
end Go.Proofs.YtkaikhcpcbjkcaaGreatDoor
