/- the reference of names: Parts -/
import Derived.Test.YtkaikhcpcbjkcaaGreatDoorNr3
namespace Go.Proofs.YtkaikhcpcbjkcaaGreatDoor
open Go.RowKit M
set_option linter.unusedVariables false
theorem cut1 {s : Bs} {i : Nat} {c : UInt8} (h : s[i]? = some c) : (s.take (i + 1)).drop i = [c] := by
  rw [List.take_add_one, h, Option.toList_some]
  have hl := (List.getElem?_eq_some_iff.1 h).1
  rw [List.drop_append, List.drop_eq_nil_of_le (by rw [List.length_take]; omega), List.length_take, Nat.min_eq_left (by omega)]
  simp
theorem drop1 {s : Bs} {i : Nat} {c : UInt8} (h : s[i]? = some c) : s.drop i = c :: s.drop (i + 1) := by
  obtain ⟨h1, h2⟩ := List.getElem?_eq_some_iff.1 h
  rw [← h2, List.getElem_cons_drop]
theorem parts_nil : partsL [] = [] := rfl
set_option maxRecDepth 100000 in
set_option maxHeartbeats 800000 in
theorem rparts_sp {w : World} {F : Th} (hS : Sat w [F]) (path : Bs) (hp : path.length ≤ 1000) :
    Calls Tryz.prog 68 #[strV path] w (Ret fun v w' => Sat w' [rowT stC v (partsL path), F]) := by
 refine calls_enter Tryz.func68 rfl Tryz.ntmps68 rfl ?_
 refine wc_seq (wc_region (wl_assign rfl rfl (wl_nil (qs_seq (wc_seq (wc_region (wl_assign rfl rfl (wl_nil (qs_seq (wc_seq (wc_region (wl_assign rfl rfl (wl_nil (qs_seq (wc_seq (wc_seq (wc_region (wl_assign rfl rfl (wl_nil (qs_seq (wc_block ?_)))))))))))))))))))))
 have hq0 := (hS.pick [0] rfl).row_nil stC
 refine wc_loop (fun K0 E0 W0 => ∃ (i : Nat) (nw : Bs) (ov : Value) (o : List Bs), K0 = path.length - i ∧ E0 = [(0, strV path), (3, ov), (4, strV nw), (5, intV (i : Int))] ∧ Sat W0 [rowT stC ov o, F] ∧ (i ≤ path.length) ∧ ((47 : UInt8) ∉ nw) ∧ (partsL path = o ++ partsL (nw ++ path.drop i)) ∧ (nw.length ≤ i) ∧ (o.length ≤ i)) (L0 := [(0, _), (3, _), (4, _), (5, _)]) (path.length - 0) (.cons rfl (.cons rfl (.cons rfl (.cons rfl .nil)))) ⟨0, [], _, [], rfl, rfl, hq0, by omega, by simp, by simp, by simp, by simp⟩ ?_
 rintro _ _ w1 ⟨i, nw, ov, o, rfl, rfl, hS1, hi, hnw, hpt, hnl, hol⟩
 refine wc_seq (wc_seq (wc_region (wl_move rfl rfl (wl_move rfl rfl ?_))))
 refine wl_lenS Tryz.underlying9 rfl rfl ?_
 refine wl_lss rfl rfl rfl ?_
 refine wl_nil (qs_seq ?_)
 refine wc_condD rfl (fun h2 => ?_) (fun h2 => ?_)
 ·obtain ⟨c0, hc⟩ : ∃ c, path[i]? = some c := ⟨_, List.getElem?_eq_getElem (by omega)⟩
  refine wc_skip (qs_seq (wc_seq (wc_block (wc_seq (wc_seq (wc_region (wl_move rfl rfl (wl_move rfl rfl ?_))))))))
  refine wl_indexS i Tryz.underlying9 rfl rfl (by omega) hc rfl ?_
  refine wl_neq rfl rfl rfl ?_
  refine wl_nil (qs_seq ?_)
  refine wc_sub (L' := [(15, _), (0, _), (3, _), (4, _), (5, _)]) (.cons rfl (.cons rfl (.cons rfl (.cons rfl (.cons rfl .nil))))) ?_
  refine wc_condD rfl (fun h3 => ?_) (fun h3 => ?_)
  ·have hc47 : c0 ≠ 47 := fun q => h3 (u8_47.2 q)
   refine wc_seq (wc_region (wl_move rfl rfl (wl_move rfl rfl (wl_move rfl rfl (wl_move rfl rfl ?_)))))
   refine wl_add rfl rfl (by first | omega | (simp; omega)) (by first | omega | (simp; omega)) rfl ?_
   refine wl_sliceS i (i + 1) Tryz.underlying9 rfl (bndS i _ rfl (by first | rfl | omega)) (bndS (i + 1) _ rfl (by first | rfl | omega)) (by first | omega | (simp; omega)) (by first | omega | (simp; omega)) rfl ?_
   refine wl_concat rfl rfl (by rw [cut1 hc]; simp; omega) rfl ?_
   rw [cut1 hc]
   refine wl_assign rfl rfl (wl_nil (qs_seq ?_))
   refine wc_sub (L' := [(4, _), (0, _), (3, _), (5, _)]) (.cons rfl (.cons rfl (.cons rfl (.cons rfl .nil)))) ?_
   refine wc_exit (qs_then_exit (qs_block_exit (qs_seq (wc_region (wl_move rfl rfl ?_)))))
   refine wl_add rfl rfl (by first | omega | (simp; omega)) (by first | omega | (simp; omega)) rfl ?_
   refine wl_assign rfl rfl (wl_nil ?_)
   exact qs_round (L1 := [(0, _), (3, _), (4, strV (nw ++ [c0])), (5, intV ((i + 1 : Nat) : Int))]) (.cons rfl (.cons rfl (.cons rfl (.cons rfl .nil)))) (k1 := path.length - (i + 1)) (by omega) ⟨i + 1, (nw ++ [c0]), _, o, rfl, rfl, hS1.pick [0, 1] rfl, by omega, by intro q; rcases List.mem_append.1 q with q | q; exact hnw q; simp at q; exact hc47 q.symm, by rw [hpt, drop1 hc, List.append_assoc]; rfl, by first | omega | (simp; done) | (simp; omega), by first | omega | (simp; done) | (simp; omega)⟩
  have hc47 : c0 = 47 := u8_47.1 (Decidable.not_not.1 h3)
  refine wc_skip (qs_seq (wc_seq (wc_seq (wc_region (wl_move rfl rfl ?_)))))
  refine wl_neqS rfl rfl rfl ?_
  refine wl_nil (qs_seq ?_)
  refine wc_condD rfl (fun h4 => ?_) (fun h4 => ?_)
  ·refine wc_region (wl_move rfl rfl (wl_move rfl rfl ?_))
   refine wl_rowBuild stC [nw] hS1 rfl Tryz.underlying40 ifz_9 rfl rfl rfl rfl (by first | rfl | simp [RowC.cells, fillL, splice]) rfl ?_
   intro bbk w5 hS5
   clear hS1
   refine wl_rowApp stC 1 hS5 rfl rfl rfl (hS5.rd 0 rfl (by simp)) Tryz.underlying40 Tryz.underlying40 (by intro k hk; cases hk) ifo_9 rfl (by first | omega | (simp; omega)) rfl (by first | omega | (simp; omega)) ?_
   intro v6 w6 hS6; dsimp only [List.set] at hS6
   clear hS5
   have h1v6 : v6.oneCell' = true := hS6.own_one 1 rfl
   refine wl_assign rfl rfl (wl_nil (qs_seq ?_))
   refine wc_sub (L' := [(3, _), (0, _), (4, _), (5, _)]) (.cons rfl (.cons rfl (.cons rfl (.cons rfl .nil)))) ?_
   refine wc_region (wl_assign rfl rfl (wl_nil (qs_block_normal (qs_seq (wc_region (wl_move rfl rfl ?_))))))
   refine wl_add rfl rfl (by first | omega | (simp; omega)) (by first | omega | (simp; omega)) rfl ?_
   refine wl_assign rfl rfl (wl_nil ?_)
   exact qs_round (L1 := [(0, _), (3, v6), (4, strV []), (5, intV ((i + 1 : Nat) : Int))]) (.cons rfl (.cons rfl (.cons rfl (.cons rfl .nil)))) (k1 := path.length - (i + 1)) (by omega) ⟨i + 1, [], _, (o ++ [nw]), rfl, rfl, hS6.pick [1, 2] rfl, by omega, by simp, by rw [hpt, drop1 hc, hc47, partsL_app, partsL_one (by assumption) hnw, List.append_assoc]; rfl, by first | omega | (simp; done) | (simp; omega), by first | omega | (simp; done) | (simp; omega)⟩
  refine wc_skip (qs_seq (wc_region (wl_assign rfl rfl (wl_nil (qs_block_normal (qs_seq (wc_region (wl_move rfl rfl ?_))))))))
  refine wl_add rfl rfl (by first | omega | (simp; omega)) (by first | omega | (simp; omega)) rfl ?_
  refine wl_assign rfl rfl (wl_nil ?_)
  exact qs_round (L1 := [(0, _), (3, _), (4, strV []), (5, intV ((i + 1 : Nat) : Int))]) (.cons rfl (.cons rfl (.cons rfl (.cons rfl .nil)))) (k1 := path.length - (i + 1)) (by omega) ⟨i + 1, [], _, o, rfl, rfl, hS1.pick [0, 1] rfl, by omega, by simp, by rw [hpt, drop1 hc, hc47, partsL_app, show nw = [] from Decidable.not_not.1 (by assumption), parts_nil]; rfl, by first | omega | (simp; done) | (simp; omega), by first | omega | (simp; done) | (simp; omega)⟩
 refine wc_exit (qs_then_exit (qs_then_exit (qs_block_exit (qs_seq (wc_seq (wc_seq (wc_region (wl_move rfl rfl ?_))))))))
 refine wl_neqS rfl rfl rfl ?_
 refine wl_nil (qs_seq ?_)
 refine wc_condD rfl (fun h7 => ?_) (fun h7 => ?_)
 ·refine wc_region (wl_move rfl rfl (wl_move rfl rfl ?_))
  refine wl_rowBuild stC [nw] hS1 rfl Tryz.underlying40 ifz_9 rfl rfl rfl rfl (by first | rfl | simp [RowC.cells, fillL, splice]) rfl ?_
  intro bbk w8 hS8
  clear hS1
  refine wl_rowApp stC 1 hS8 rfl rfl rfl (hS8.rd 0 rfl (by simp)) Tryz.underlying40 Tryz.underlying40 (by intro k hk; cases hk) ifo_9 rfl (by first | omega | (simp; omega)) rfl (by first | omega | (simp; omega)) ?_
  intro v9 w9 hS9; dsimp only [List.set] at hS9
  clear hS8
  have h1v9 : v9.oneCell' = true := hS9.own_one 1 rfl
  refine wl_assign rfl rfl (wl_nil (qs_seq ?_))
  refine wc_sub (L' := [(3, _)]) (.cons rfl .nil) ?_
  refine wc_seq (wc_region (wl_move rfl rfl (wl_assign rfl rfl (wl_nil (qs_seq (wc_ret ?_))))))
  refine fin1 (.inr rfl) rfl rfl ?_
  have hp9 : partsL path = o ++ [nw] := hpt.trans (by rw [List.drop_eq_nil_of_le (by omega), List.append_nil, partsL_one (by assumption) hnw])
  exact ⟨_, rfl, by rw [hp9]; exact hS9.pick [1, 2] rfl⟩
 refine wc_skip (qs_seq (wc_seq (wc_region (wl_move rfl rfl (wl_assign rfl rfl (wl_nil (qs_seq ?_)))))))
 refine wc_sub (L' := [(2, _)]) (.cons rfl .nil) ?_
 refine wc_ret ?_
 refine fin1 (.inr rfl) rfl rfl ?_
 have hp9 : partsL path = o := hpt.trans (by rw [List.drop_eq_nil_of_le (by omega), List.append_nil, show nw = [] from Decidable.not_not.1 (by assumption), parts_nil, List.append_nil])
 exact ⟨_, rfl, by rw [hp9]; exact hS1.pick [0, 1] rfl⟩
end Go.Proofs.YtkaikhcpcbjkcaaGreatDoor
/- the reference of names: Resolve -/
namespace Go.Proofs.YtkaikhcpcbjkcaaGreatDoor
open Go.RowKit M
set_option linter.unusedVariables false
theorem partsL_few (path : Bs) : (partsL path).length ≤ path.length + 1 := by
  have h : ∀ s : Bs, (splitB s).length ≤ s.length + 1 := by
    intro s
    induction s with
    | nil => simp [splitB]
    | cons c r ih =>
      rw [splitB_cons]
      split
      · simp; omega
      · cases hq : splitB r with
        | nil => simp
        | cons x t => rw [hq] at ih; simp at ih ⊢; omega
  unfold partsL
  exact Nat.le_trans (List.length_filter_le _ _) (h path)
theorem begS_root {cwd path : Bs} {c : UInt8} {t : Bs} (h : path = c :: t) (hl : path.length ≤ 64) : begS cwd path = if c = 47 then [114] else cwd := by
  subst h
  unfold begS
  rw [if_neg (by omega)]
set_option maxRecDepth 100000 in
set_option maxHeartbeats 800000 in
theorem rresolve_sp {w : World} {F : Th} {p n : Nat} {W : WS} (hS : Sat w [refP p W n, F]) (hn : n ≤ 900) {m : Nat} (hP : PI W m) (cwd path : Bs) (hcl : cwd.length ≤ 900) (hpl : path.length ≤ 3000000) :
    Calls Tryz.prog 26 #[ptrV p 0, strV cwd, strV path] w (Ret fun v w' => v = .tuple #[strV (resV W cwd path).1, intV (resV W cwd path).2] ∧ Sat w' [refP p W n, F]) := by
 refine calls_enter Tryz.func26 rfl Tryz.ntmps26 rfl ?_
 refine wc_seq (wc_region (wl_assign rfl rfl (wl_assign rfl rfl (wl_nil (qs_seq (wc_seq (wc_seq (wc_region (wl_move rfl rfl ?_)))))))))
 refine wl_lenS Tryz.underlying9 rfl rfl ?_
 refine wl_gtr rfl rfl rfl ?_
 refine wl_nil (qs_seq ?_)
 refine wc_condD rfl (fun h1 => ?_) (fun h1 => ?_)
 ·refine wc_seq (wc_region (wl_assign rfl rfl (wl_assign rfl rfl (wl_nil (qs_seq (wc_ret (qs_then_ret ?_)))))))
  refine fin2 (.inr rfl) rfl rfl rfl ?_
  have hb : begE path = 16 := by unfold begE; rw [if_pos (by omega)]
  exact ⟨_, rfl, by unfold resV; rw [if_pos (by rw [hb]; decide), hb], hS.pick [0, 1] rfl⟩
 refine wc_skip (qs_seq (wc_seq (wc_seq (wc_region (wl_move rfl rfl ?_)))))
 refine wl_eqlS rfl rfl rfl ?_
 refine wl_nil (qs_seq ?_)
 refine wc_condD rfl (fun h2 => ?_) (fun h2 => ?_)
 ·have hpe : path = [] := h2
  refine wc_seq (wc_region (wl_assign rfl rfl (wl_assign rfl rfl (wl_nil (qs_seq (wc_ret (qs_then_ret ?_)))))))
  refine fin2 (.inr rfl) rfl rfl rfl ?_
  subst hpe
  exact ⟨_, rfl, rfl, hS.pick [0, 1] rfl⟩
 obtain ⟨c0, pt, rfl⟩ : ∃ c t, path = c :: t := by cases path with | nil => exact absurd rfl h2 | cons c t => exact ⟨c, t, rfl⟩
 have hpf := partsL_few (c0 :: pt)
 refine wc_skip (qs_seq (wc_seq (wc_seq (wc_region (wl_move rfl rfl ?_)))))
 refine wl_indexS 0 Tryz.underlying9 rfl rfl (by first | rfl | omega) (show (c0 :: pt : Bs)[0]? = some c0 from rfl) rfl ?_
 refine wl_eql rfl rfl rfl ?_
 refine wl_nil (qs_seq ?_)
 refine wc_sub (L' := [(15, _), (7, _), (6, _), (0, _), (1, _), (2, _)]) (.cons rfl (.cons rfl (.cons rfl (.cons rfl (.cons rfl (.cons rfl .nil)))))) ?_
 refine wc_condD rfl (fun h3 => ?_) (fun h3 => ?_)
 ·have hc47 : c0 = 47 := u8_47.1 h3
  refine wc_region (wl_assign rfl rfl (wl_nil (qs_seq (wc_seq (wc_region (wl_move rfl rfl (wl_move rfl rfl (wl_move rfl rfl ?_))))))))
  have hC4 := hS.split [] [false, false] rfl; dsimp only [selF, pickA, nthA, List.cons_append, List.nil_append] at hC4
  refine wl_call cal_68 rfl (rparts_sp hC4 (c0 :: pt) (by omega)) rfl ?_
  rintro e w4 ⟨_, rfl, hS4⟩; refine ⟨_, rfl, ?_⟩
  replace hS4 := hS4.join rfl; dsimp only [List.dropLast, List.cons_append, List.nil_append] at hS4; clear hC4
  have h1pv := hS4.own_one 0 rfl
  have hC5 := hS4.split [1] [false, true, false] rfl; dsimp only [selF, pickA, nthA, List.cons_append, List.nil_append] at hC5
  refine wl_call cal_67 rfl (ralong_sp hC5 hn hP [114] (by simp) (Ent.starL (ent_row (C := stC) (l := partsL (c0 :: pt)) (by omega)) 0 rfl) (fun x hx => by have := partsL_le hx; omega)) rfl ?_
  rintro e w5 ⟨_, rfl, rfl, hS5⟩; refine ⟨_, rfl, ?_⟩
  replace hS5 := hS5.join rfl; dsimp only [List.dropLast, List.cons_append, List.nil_append] at hS5; clear hC5
  clear hS4
  refine wl_extract rfl rfl rfl (wl_extract rfl rfl rfl (wl_assign rfl rfl (wl_assign rfl rfl (wl_nil (qs_seq ?_)))))
  refine wc_sub (L' := [(7, _), (6, _)]) (.cons rfl (.cons rfl .nil)) ?_
  refine wc_ret ?_
  refine fin2 (.inr rfl) rfl rfl rfl ?_
  exact ⟨_, rfl, by rw [res_eq (by simp) (by omega), begS_root rfl (by omega), if_pos (by first | exact hc47)], hS5.pick [0, 2] rfl⟩
 have hc47 : ¬ c0 = 47 := fun q => h3 (u8_47.2 q)
 refine wc_skip (qs_seq (wc_seq (wc_region (wl_move rfl rfl (wl_move rfl rfl (wl_move rfl rfl ?_))))))
 have hC6 := hS.split [] [false, false] rfl; dsimp only [selF, pickA, nthA, List.cons_append, List.nil_append] at hC6
 refine wl_call cal_68 rfl (rparts_sp hC6 (c0 :: pt) (by omega)) rfl ?_
 rintro e w6 ⟨_, rfl, hS6⟩; refine ⟨_, rfl, ?_⟩
 replace hS6 := hS6.join rfl; dsimp only [List.dropLast, List.cons_append, List.nil_append] at hS6; clear hC6
 have h1pv := hS6.own_one 0 rfl
 have hC7 := hS6.split [1] [false, true, false] rfl; dsimp only [selF, pickA, nthA, List.cons_append, List.nil_append] at hC7
 refine wl_call cal_67 rfl (ralong_sp hC7 hn hP cwd hcl (Ent.starL (ent_row (C := stC) (l := partsL (c0 :: pt)) (by omega)) 0 rfl) (fun x hx => by have := partsL_le hx; omega)) rfl ?_
 rintro e w7 ⟨_, rfl, rfl, hS7⟩; refine ⟨_, rfl, ?_⟩
 replace hS7 := hS7.join rfl; dsimp only [List.dropLast, List.cons_append, List.nil_append] at hS7; clear hC7
 clear hS6
 refine wl_extract rfl rfl rfl (wl_extract rfl rfl rfl (wl_assign rfl rfl (wl_assign rfl rfl (wl_nil (qs_seq ?_)))))
 refine wc_sub (L' := [(7, _), (6, _)]) (.cons rfl (.cons rfl .nil)) ?_
 refine wc_ret ?_
 refine fin2 (.inr rfl) rfl rfl rfl ?_
 exact ⟨_, rfl, by rw [res_eq (by simp) (by omega), begS_root rfl (by omega), if_neg (by first | exact hc47)], hS7.pick [0, 2] rfl⟩
end Go.Proofs.YtkaikhcpcbjkcaaGreatDoor
/- the reference of names: List -/
namespace Go.Proofs.YtkaikhcpcbjkcaaGreatDoor
open Go.RowKit M
set_option linter.unusedVariables false
set_option maxRecDepth 100000 in
theorem rlist_sp {w : World} {F : Th} {p n : Nat} {W : WS} (hS : Sat w [refP p W n, F]) (hn : n ≤ 900) (hB : TB W) (dir : Bs) (hd : dir.length ≤ 900) (hkx : ∀ lk : List Bs, (∀ l', KeysOf W.cells (kE dir []) l' → l' = lk) → ∀ y ∈ lk, (kE dir []).length ≤ y.length) :
    Calls Tryz.prog 29 #[ptrV p 0, strV dir] w (Ret fun v w' => ∃ sv L, v = .tuple #[sv, intV (dirE W dir)] ∧ ((dirE W dir ≠ 0 ∧ L = []) ∨ (dirE W dir = 0 ∧ ∀ lk, KeysOf W.cells (kE dir []) lk → L = lk.map (offK dir))) ∧ Sat w' [rowT stC sv L, refP p W n, F]) := by
 refine calls_enter Tryz.func29 rfl Tryz.ntmps29 rfl ?_
 refine wc_seq (wc_region (wl_assign rfl rfl (wl_assign rfl rfl (wl_nil (qs_seq (wc_seq (wc_region (wl_move rfl rfl (wl_move rfl rfl ?_)))))))))
 have hC1 := hS.split [0] [true, false] rfl; dsimp only [selF, pickA, nthA, List.cons_append, List.nil_append] at hC1
 refine wl_call cal_69 rfl (rdir_sp hC1 (by omega) hB dir (by omega)) rfl ?_
 rintro e w1 ⟨_, rfl, rfl, hS1⟩; refine ⟨_, rfl, ?_⟩
 replace hS1 := hS1.join rfl; dsimp only [List.dropLast, List.cons_append, List.nil_append] at hS1; clear hC1
 refine wl_assign rfl rfl (wl_nil (qs_seq (wc_seq (wc_seq (wc_region (wl_move rfl rfl ?_))))))
 refine wl_neq rfl rfl rfl ?_
 refine wl_nil (qs_seq ?_)
 refine wc_condD rfl (fun h2 => ?_) (fun h2 => ?_)
 ·refine wc_seq (wc_region (wl_move rfl rfl (wl_assign rfl rfl (wl_assign rfl rfl (wl_nil (qs_seq ?_))))))
  refine wc_sub (L' := [(5, _), (4, _), (0, _), (1, _)]) (.cons rfl (.cons rfl (.cons rfl (.cons rfl .nil)))) ?_
  refine wc_ret (qs_then_ret ?_)
  refine fin2 (.inr rfl) rfl rfl rfl ?_
  exact ⟨_, rfl, _, _, rfl, .inl ⟨by assumption, rfl⟩, (hS1.pick [0, 1] rfl).row_nil stC⟩
 refine wc_skip (qs_seq (wc_seq (wc_region (wl_assign rfl rfl (wl_nil (qs_seq ?_))))))
 refine wc_sub (L' := [(7, _), (5, _), (4, _), (0, _), (1, _)]) (.cons rfl (.cons rfl (.cons rfl (.cons rfl (.cons rfl .nil))))) ?_
 refine wc_seq (wc_region (wl_move rfl rfl (wl_move rfl rfl ?_)))
 have hC3 := hS1.split [] [false, false] rfl; dsimp only [selF, pickA, nthA, List.cons_append, List.nil_append] at hC3
 refine wl_call cal_73 rfl (rentry_sp hC3 dir [] (by omega) (by simp)) rfl ?_
 rintro e w3 ⟨_, rfl, rfl, hS3⟩; refine ⟨_, rfl, ?_⟩
 replace hS3 := hS3.join rfl; dsimp only [List.dropLast, List.cons_append, List.nil_append] at hS3; clear hC3
 clear hS1
 have hC4 := hS3.split [0] [true, false] rfl; dsimp only [selF, pickA, nthA, List.cons_append, List.nil_append] at hC4
 refine wl_call cal_72 rfl (qWith hC4 (by omega) (kE dir [])) rfl ?_
 rintro e w4 ⟨_, rfl, lk, hcn, hun, hln, hS4⟩; refine ⟨_, rfl, ?_⟩
 replace hS4 := hS4.join rfl; dsimp only [List.dropLast, List.cons_append, List.nil_append] at hS4; clear hC4
 clear hS3
 have hpx : ∀ y ∈ lk, (kE dir []).length ≤ y.length := hkx lk hun
 obtain ⟨ka, kc, hkv, _⟩ := hS4.own_shape 0 rfl
 obtain rfl := hkv
 refine wl_assign rfl rfl (wl_nil (qs_seq (wc_seq (wc_seq (wc_region (wl_assign rfl rfl (wl_nil (qs_seq ?_))))))))
 refine wc_sub (L' := [(9, _), (8, _), (7, _), (5, _), (4, _), (1, _)]) (.cons rfl (.cons rfl (.cons rfl (.cons rfl (.cons rfl (.cons rfl .nil)))))) ?_
 refine wc_block ?_
 have hq0 := (hS4.pick [0, 1, 2] rfl).row_nil stC
 refine wc_loop (fun K0 E0 W0 => ∃ (i : Nat) (ov : Value), K0 = lk.length - i ∧ E0 = [(1, strV dir), (7, ov), (8, .slice ka lk.length kc), (9, intV (i : Int))] ∧ Sat W0 [rowT stC ov ((lk.take i).map (offK dir)), rowT stC (.slice ka lk.length kc) lk, refP p W n, F] ∧ (i ≤ lk.length)) (L0 := [(1, _), (7, _), (8, _), (9, _)]) (lk.length - 0) (.cons rfl (.cons rfl (.cons rfl (.cons rfl .nil)))) ⟨0, _, rfl, rfl, hq0, by omega⟩ ?_
 rintro _ _ w5 ⟨i, ov, rfl, rfl, hS5, hi⟩
 refine wc_seq (wc_seq (wc_region (wl_move rfl rfl (wl_move rfl rfl ?_))))
 first | refine wl_lenL Tryz.underlying40 rfl rfl ?_ | refine wl_lenO 0 hS5 Tryz.underlying40 rfl rfl rfl ?_ | refine wl_lenO 1 hS5 Tryz.underlying40 rfl rfl rfl ?_
 refine wl_lss rfl rfl rfl ?_
 refine wl_nil (qs_seq ?_)
 refine wc_condD rfl (fun h6 => ?_) (fun h6 => ?_)
 ·obtain ⟨ky, hky⟩ : ∃ y, lk[i]? = some y := ⟨_, List.getElem?_eq_getElem (by omega)⟩
  obtain ⟨kb, kc9, hqk, _⟩ := hS5.own_at 1 rfl (by omega)
  cases hqk
  have hkp : (kE dir []).length ≤ ky.length := hpx ky (List.mem_of_getElem? hky)
  refine wc_skip (qs_seq (wc_seq (wc_block ?_)))
  have hS7 := hS5.drew
  refine wc_draw [0, 1, 2, 3, 4, 5, 6, 7, 8, 9, 10, 11] [6, 9, 10] mix (by kernel_rfl) ?_
  refine vc_p rfl rfl rfl (fun _ => (ev_move rfl)) ?_
  refine vc_p rfl rfl rfl (fun _ => (ev_move rfl)) ?_
  refine vc_p rfl rfl rfl (fun _ => (ev_move rfl)) ?_
  refine vc_p rfl rfl rfl (fun _ => (ev_indexAddr i rfl rfl (by first | rfl | omega) (by first | omega | exact (List.getElem?_eq_some_iff.1 hky).1) es_40)) ?_
  refine vc_q rfl rfl rfl (ev_rowLoad0 stC 1 i 0 hS7 rfl hky ag_9 rfl rfl) ?_
  refine vc_p rfl rfl rfl (fun _ => (ev_move rfl)) ?_
  refine vc_s rfl rfl rfl rfl rfl rfl ?_
  have hC8 := hS7.split [] [false, false, false, false] rfl; dsimp only [selF, pickA, nthA, List.cons_append, List.nil_append] at hC8
  refine wl_call cal_73 rfl (rentry_sp hC8 dir [] (by omega) (by simp)) rfl ?_
  rintro e w8 ⟨_, rfl, rfl, hS8⟩; refine ⟨_, rfl, ?_⟩
  replace hS8 := hS8.join rfl; dsimp only [List.dropLast, List.cons_append, List.nil_append] at hS8; clear hC8
  clear hS7
  refine vc_e (.cons (.inl ⟨rfl, (ev_rowLoad0 stC 1 i 0 hS8 rfl hky ag_9 rfl rfl)⟩) .nil) ?_
  refine vc_p rfl rfl rfl (fun _ => (ev_lenS Tryz.underlying9 rfl)) ?_
  refine vc_p rfl rfl rfl (fun _ => (ev_sliceS (kE dir []).length ky.length Tryz.underlying9 rfl (bndS (kE dir []).length _ rfl rfl) (bndN _) (by first | omega | (simp; omega)) (by first | omega | (simp; omega)))) ?_
  rw [List.take_length]
  refine vc_s rfl rfl rfl rfl rfl rfl ?_
  refine wl_rowBuild stC [offK dir ky] hS8 rfl Tryz.underlying40 ifz_9 rfl rfl rfl rfl (by first | rfl | simp [RowC.cells, fillL, splice]) rfl ?_
  intro bbk w9 hS9
  clear hS8
  refine vc_e (.skip (by kernel_rfl) .nil) ?_
  refine vc_s rfl rfl rfl rfl rfl rfl ?_
  refine wl_rowApp stC 1 hS9 rfl rfl rfl (hS9.rd 0 rfl (by simp)) Tryz.underlying40 Tryz.underlying40 (by intro k hk; cases hk) ifo_9 rfl (by first | omega | (rw [List.length_map, List.length_take]; simp; omega)) rfl (by first | omega | (rw [List.length_map, List.length_take]; simp; omega)) ?_
  intro v10 w10 hS10; dsimp only [List.set] at hS10
  clear hS9
  have h1v10 : v10.oneCell' = true := hS10.own_one 1 rfl
  refine vc_e (.skip (by kernel_rfl) .nil) ?_
  refine vc_p rfl rfl rfl (fun _ => (ev_assign rfl)) ?_
  refine VC.nil (qs_block_normal (qs_seq ?_))
  refine wc_sub (L' := [(7, _), (1, _), (8, _), (9, _)]) (.cons rfl (.cons rfl (.cons rfl (.cons rfl .nil)))) ?_
  refine wc_region (wl_move rfl rfl ?_)
  refine wl_add rfl rfl (by first | omega | (simp; omega)) (by first | omega | (simp; omega)) rfl ?_
  refine wl_assign rfl rfl (wl_nil ?_)
  have hSy : Sat _ [rowT stC v10 (((lk.take i).map (offK dir)) ++ [offK dir ky]), _, _, _] := hS10.pick [1, 2, 3, 4] rfl
  rw [show ((lk.take i).map (offK dir)) ++ [offK dir ky] = ((lk.take (i + 1)).map (offK dir)) by rw [List.take_add_one, hky, Option.toList_some, List.map_append]; rfl] at hSy
  exact qs_round (L1 := [(1, _), (7, v10), (8, _), (9, intV ((i + 1 : Nat) : Int))]) (.cons rfl (.cons rfl (.cons rfl (.cons rfl .nil)))) (k1 := lk.length - (i + 1)) (by omega) ⟨i + 1, _, rfl, rfl, hSy, by omega⟩
 refine wc_exit (qs_then_exit (qs_then_exit (qs_block_exit (qs_seq (wc_seq (wc_region (wl_move rfl rfl (wl_assign rfl rfl (wl_assign rfl rfl (wl_nil (qs_seq ?_)))))))))))
 refine wc_sub (L' := [(5, _), (4, _)]) (.cons rfl (.cons rfl .nil)) ?_
 refine wc_ret ?_
 refine fin2 (.inr rfl) rfl rfl rfl ?_
 have hd0 : dirE W dir = 0 := Decidable.not_not.1 (by assumption)
 have hS9 := hS5.pick [0, 2, 3] rfl
 rw [List.take_of_length_le (by omega)] at hS9
 exact ⟨_, rfl, _, _, by rw [hd0], .inr ⟨hd0, fun l' hl' => by rw [hun l' hl']⟩, hS9⟩
end Go.Proofs.YtkaikhcpcbjkcaaGreatDoor
